/- The given functions, as what they compute; each is shown to be what the code does. No conditions. -/
import Derived.Test.YtojipknoidbbgaaGreatG5
import Derived.Test.YtojipknoidbbgaaGreatProg
set_option linter.unusedVariables false
set_option linter.unusedSimpArgs false
namespace Go.Fw
noncomputable abbrev PG := Go.Proofs.Tryz.prog
def o2 (d : Nat) (e : ED) (j : Nat) (b : Bool) : TO := ⟨false, [], [], .det 1 e, [d], some d, some (j, b)⟩
def o3 (d : Nat) (K : FuncId) (gets : List OY) : TO := ⟨false, [], [], .call 1 K gets .no, [d], some d, none⟩
def o4 (n : Nat) (ds : List Nat) (e : ED) : TO := ⟨false, [], [], .det n e, ds, none, none⟩
end Go.Fw
namespace Go.Fw
def c_lszIntS : TC :=
 (.seq (.rg [o1 4 (.lit [.i .i64] [.int .i64 (0)])])
 (.seq (.rg [o1 5 (.copy 1),
   o1 6 (.copy 0),
   o1 7 (.len 6),
   o1 8 (.data (.bin .sub) [.t 5, .t 7]),
   o1 1 (.copy 8)])
 (.seq (.seq (.rg [o1 9 (.copy 1),
   o1 10 (.data (.bin .lss) [.t 9, .c (.int .i64 (0))])])
 (.cond (.t 10)
  (.seq (.rg [o1 4 (.lit [.i .i64] [.int .i64 (-1)])])
  .ret)
  .skip))
 (.seq (.rg [o1 11 (.copy 1),
   o1 4 (.copy 11)])
 .ret))))
def s_lszIntS : Sig := ⟨[.rd false [.sl (.own none) [.d]], .rd false [.d]], (.one false [.d])⟩
noncomputable def E_lszIntS : TEnv := envOf []
noncomputable def f_lszIntS (n : Nat) : List (Int) × Int → Option ((Int) × Unit) := runFn n E_lszIntS c_lszIntS [[.sl [.i .i64]], [.i .i64]] [.i .i64] [] [4] .no
noncomputable def g_lszIntS := f_lszIntS BIG
noncomputable def p_lszIntS : TSp := ⟨s_lszIntS, [[.sl [.i .i64]], [.i .i64]], [.i .i64], [], Ou.j .no, g_lszIntS⟩
theorem k_lszIntS : chkW PG E_lszIntS 114 s_lszIntS (c_lszIntS.ht 12) .no = some (c_lszIntS.wc E_lszIntS, [4]) := by kernel_rfl
theorem ok_lszIntS : p_lszIntS.Ok PG 114 := mkOk (env_nil PG) k_lszIntS (by kernel_rfl)
theorem e_lszIntS (n : Nat) (a0 : List (Int)) (a1 : Int) : f_lszIntS n (a0, a1) =
  bif decide ((IntKind.wrap .i64 (a1 - (a0.length : Int))) < (0 : Int)) then
   some ((-1 : Int), ())
  else some (IntKind.wrap .i64 (a1 - (a0.length : Int)), ()) := by kernel_rfl
def c_lszEdgeS : TC :=
 (.seq (.rg [o1 4 (.lit [.i .i64] [.int .i64 (0)])])
 (.seq (.rg [o1 5 (.copy 1),
   o1 6 (.copy 0),
   o1 7 (.len 6),
   o1 8 (.data (.bin .sub) [.t 5, .t 7]),
   o1 1 (.copy 8)])
 (.seq (.seq (.rg [o1 9 (.copy 1),
   o1 10 (.data (.bin .lss) [.t 9, .c (.int .i64 (0))])])
 (.cond (.t 10)
  (.seq (.rg [o1 4 (.lit [.i .i64] [.int .i64 (-1)])])
  .ret)
  .skip))
 (.seq (.rg [o1 11 (.copy 1),
   o1 4 (.copy 11)])
 .ret))))
def s_lszEdgeS : Sig := ⟨[.rd false [.sl (.own none) [.d, .d]], .rd false [.d]], (.one false [.d])⟩
noncomputable def E_lszEdgeS : TEnv := envOf []
noncomputable def f_lszEdgeS (n : Nat) : (List (Int × Int)) × Int → Option ((Int) × Unit) := runFn n E_lszEdgeS c_lszEdgeS [[.sl [.i .i64, .i .i64]], [.i .i64]] [.i .i64] [] [4] .no
noncomputable def g_lszEdgeS := f_lszEdgeS BIG
noncomputable def p_lszEdgeS : TSp := ⟨s_lszEdgeS, [[.sl [.i .i64, .i .i64]], [.i .i64]], [.i .i64], [], Ou.j .no, g_lszEdgeS⟩
theorem k_lszEdgeS : chkW PG E_lszEdgeS 115 s_lszEdgeS (c_lszEdgeS.ht 12) .no = some (c_lszEdgeS.wc E_lszEdgeS, [4]) := by kernel_rfl
theorem ok_lszEdgeS : p_lszEdgeS.Ok PG 115 := mkOk (env_nil PG) k_lszEdgeS (by kernel_rfl)
theorem e_lszEdgeS (n : Nat) (a0 : List (Int × Int)) (a1 : Int) : f_lszEdgeS n (a0, a1) =
  bif decide ((IntKind.wrap .i64 (a1 - (a0.length : Int))) < (0 : Int)) then
   some ((-1 : Int), ())
  else some (IntKind.wrap .i64 (a1 - (a0.length : Int)), ()) := by kernel_rfl
def c_lszIntSS : TC :=
 (.seq (.rg [o1 4 (.lit [.i .i64] [.int .i64 (0)])])
 (.seq (.rg [o1 6 (.copy 1),
   o1 7 (.copy 0),
   o1 8 (.len 7),
   o1 9 (.data (.bin .sub) [.t 6, .t 8]),
   o1 1 (.copy 9)])
 (.seq (.seq (.rg [o1 10 (.copy 1),
   o1 11 (.data (.bin .lss) [.t 10, .c (.int .i64 (0))])])
 (.cond (.t 11)
  (.seq (.rg [o1 4 (.lit [.i .i64] [.int .i64 (-1)])])
  .ret)
  .skip))
 (.seq (.join [⟨1, [.i .i64], false⟩] 67104818 (some [⟨4, [.i .i64], false⟩]) (.seq (.rg [o1 5 (.lit [.i .i64] [.int .i64 (0)])])
 (.block 0 (.loop [⟨1, [.i .i64], false⟩, ⟨5, [.i .i64], false⟩] 67104818
  (.seq (.seq (.rg [o1 12 (.copy 5),
    o1 13 (.copy 0),
    o1 14 (.len 13),
    o1 15 (.data (.bin .lss) [.t 12, .t 14])])
  (.cond (.t 15)
   .skip
   (.exit 0)))
  (.seq (.block 1 (.seq (.rg [o1 18 (.copy 0),
    o1 19 (.copy 5),
    o1 20 (.index 18 (.t 19)),
    o1 21 (.load 18 [(0, 1)] 0 (.t 20) 1 false),
    o1 22 (.copy 1),
    o3 23 114 [.t 21, .t 22],
    o1 1 (.copy 23)])
  (.seq (.rg [o1 24 (.copy 1),
    o1 25 (.data (.bin .lss) [.t 24, .c (.int .i64 (0))])])
  (.cond (.t 25)
   (.seq (.rg [o1 4 (.lit [.i .i64] [.int .i64 (-1)])])
   .ret)
   .skip))))
  (.rg [o1 16 (.copy 5),
    o1 17 (.data (.bin .add) [.t 16, .c (.int .i64 (1))]),
    o1 5 (.copy 17)])))))))
 (.seq (.rg [o1 26 (.copy 1),
   o1 4 (.copy 26)])
 .ret)))))
def s_lszIntSS : Sig := ⟨[.rd false [.sl (.own none) [.sl (.own none) [.d]]], .rd false [.d]], (.one false [.d])⟩
noncomputable def E_lszIntSS : TEnv := envOf [(114, p_lszIntS)]
noncomputable def f_lszIntSS (n : Nat) : List (List (Int)) × Int → Option ((Int) × Unit) := runFn n E_lszIntSS c_lszIntSS [[.sl [.sl [.i .i64]]], [.i .i64]] [.i .i64] [] [4] .no
noncomputable def g_lszIntSS := f_lszIntSS BIG
noncomputable def p_lszIntSS : TSp := ⟨s_lszIntSS, [[.sl [.sl [.i .i64]]], [.i .i64]], [.i .i64], [], Ou.j .no, g_lszIntSS⟩
theorem k_lszIntSS : chkW PG E_lszIntSS 116 s_lszIntSS (c_lszIntSS.ht 27) .no = some (c_lszIntSS.wc E_lszIntSS, [4]) := by kernel_rfl
theorem ok_lszIntSS : p_lszIntSS.Ok PG 116 := mkOk (env_cons ok_lszIntS (env_nil PG)) k_lszIntSS (by kernel_rfl)
theorem e_lszIntSS (n : Nat) (a0 : List ((List (Int)))) (a1 : Int) : f_lszIntSS n (a0, a1) =
  bif decide ((IntKind.wrap .i64 (a1 - (a0.length : Int))) < (0 : Int)) then
   some ((-1 : Int), ())
  else Option.bind (loopT n (X := Int × Int) (B := (Int) ⊕ (Int)) (fun self1 x0 =>
    bif decide (x0.2 < (a0.length : Int)) then
     bnd a0.length x0.2 fun n2 =>
     Option.bind a0[n2]? fun y3 =>
     Option.bind (g_lszIntS (y3, x0.1)) fun r4 =>
     bif decide (r4.1 < (0 : Int)) then
      some (Sum.inr (-1 : Int))
     else self1 (r4.1, IntKind.wrap .i64 (x0.2 + (1 : Int)))
    else some (Sum.inl x0.1)) (IntKind.wrap .i64 (a1 - (a0.length : Int)), (0 : Int)) : Option ((Int) ⊕ (Int))) fun y => match y with
  | .inl x5 =>
   some (x5, ())
  | .inr x5 =>
   some (x5, ()) := by kernel_rfl
def c_lszOrder : TC :=
 (.seq (.rg [o1 2 (.a (.t 0)),
   o1 4 (.lit [.i .i64] [.int .i64 (0)])])
 (.seq (.rg [o1 5 (.idx .nil),
   o1 6 (.load 2 [] 2 (.t 5) 1 false),
   o1 7 (.copy 1),
   o3 8 115 [.t 6, .t 7],
   o1 1 (.copy 8)])
 (.seq (.seq (.rg [o1 9 (.copy 1),
   o1 10 (.data (.bin .lss) [.t 9, .c (.int .i64 (0))])])
 (.cond (.t 10)
  (.seq (.rg [o1 4 (.lit [.i .i64] [.int .i64 (-1)])])
  .ret)
  .skip))
 (.seq (.rg [o1 11 (.copy 1),
   o1 4 (.copy 11)])
 .ret))))
def s_lszOrder : Sig := ⟨[.rd true [.d, .d, .sl (.own none) [.d, .d], .d], .rd false [.d]], (.one false [.d])⟩
noncomputable def E_lszOrder : TEnv := envOf [(115, p_lszEdgeS)]
noncomputable def f_lszOrder (n : Nat) : (Int × Int × List (Int × Int) × Int) × Int → Option ((Int) × Unit) := runFn n E_lszOrder c_lszOrder [[.i .i64, .i .i64, .sl [.i .i64, .i .i64], .i .i64], [.i .i64]] [.i .i64] [] [4] .no
noncomputable def g_lszOrder := f_lszOrder BIG
noncomputable def p_lszOrder : TSp := ⟨s_lszOrder, [[.i .i64, .i .i64, .sl [.i .i64, .i .i64], .i .i64], [.i .i64]], [.i .i64], [], Ou.j .no, g_lszOrder⟩
theorem k_lszOrder : chkW PG E_lszOrder 82 s_lszOrder (c_lszOrder.ht 12) .no = some (c_lszOrder.wc E_lszOrder, [4]) := by kernel_rfl
theorem ok_lszOrder : p_lszOrder.Ok PG 82 := mkOk (env_cons ok_lszEdgeS (env_nil PG)) k_lszOrder (by kernel_rfl)
theorem e_lszOrder (n : Nat) (a0 : Int × Int × List (Int × Int) × Int) (a1 : Int) : f_lszOrder n (a0, a1) =
  Option.bind (g_lszEdgeS (a0.2.2.1, a1)) fun r0 =>
  bif decide (r0.1 < (0 : Int)) then
   some ((-1 : Int), ())
  else some (r0.1, ()) := by kernel_rfl
def c_lszTask : TC :=
 (.seq (.rg [o1 2 (.a (.t 0)),
   o1 4 (.lit [.i .i64] [.int .i64 (0)])])
 (.seq (.rg [o1 5 (.idx .nil),
   o1 6 (.load 2 [] 5 (.t 5) 4 false),
   o1 7 (.copy 1),
   o3 8 82 [.t 6, .t 7],
   o1 1 (.copy 8)])
 (.seq (.seq (.rg [o1 9 (.copy 1),
   o1 10 (.data (.bin .lss) [.t 9, .c (.int .i64 (0))])])
 (.cond (.t 10)
  (.seq (.rg [o1 4 (.lit [.i .i64] [.int .i64 (-1)])])
  .ret)
  .skip))
 (.seq (.rg [o1 11 (.copy 1),
   o1 4 (.copy 11)])
 .ret))))
def s_lszTask : Sig := ⟨[.rd true [.d, .d, .d, .d, .d, .d, .d, .sl (.own none) [.d, .d], .d], .rd false [.d]], (.one false [.d])⟩
noncomputable def E_lszTask : TEnv := envOf [(82, p_lszOrder)]
noncomputable def f_lszTask (n : Nat) : (Int × Int × Int × Int × Int × Int × Int × List (Int × Int) × Int) × Int → Option ((Int) × Unit) := runFn n E_lszTask c_lszTask [[.i .i64, .i .i64, .i .i64, .i .i64, .i .i64, .i .i64, .i .i64, .sl [.i .i64, .i .i64], .i .i64], [.i .i64]] [.i .i64] [] [4] .no
noncomputable def g_lszTask := f_lszTask BIG
noncomputable def p_lszTask : TSp := ⟨s_lszTask, [[.i .i64, .i .i64, .i .i64, .i .i64, .i .i64, .i .i64, .i .i64, .sl [.i .i64, .i .i64], .i .i64], [.i .i64]], [.i .i64], [], Ou.j .no, g_lszTask⟩
theorem k_lszTask : chkW PG E_lszTask 117 s_lszTask (c_lszTask.ht 12) .no = some (c_lszTask.wc E_lszTask, [4]) := by kernel_rfl
theorem ok_lszTask : p_lszTask.Ok PG 117 := mkOk (env_cons ok_lszOrder (env_nil PG)) k_lszTask (by kernel_rfl)
theorem e_lszTask (n : Nat) (a0 : Int × Int × Int × Int × Int × Int × Int × List (Int × Int) × Int) (a1 : Int) : f_lszTask n (a0, a1) =
  Option.bind (g_lszOrder (a0.2.2.2.2.2, a1)) fun r0 =>
  bif decide (r0.1 < (0 : Int)) then
   some ((-1 : Int), ())
  else some (r0.1, ()) := by kernel_rfl
def c_lszSaidS : TC :=
 (.seq (.rg [o1 4 (.lit [.i .i64] [.int .i64 (0)])])
 (.seq (.rg [o1 5 (.copy 1),
   o1 6 (.copy 0),
   o1 7 (.len 6),
   o1 8 (.data (.bin .sub) [.t 5, .t 7]),
   o1 1 (.copy 8)])
 (.seq (.seq (.rg [o1 9 (.copy 1),
   o1 10 (.data (.bin .lss) [.t 9, .c (.int .i64 (0))])])
 (.cond (.t 10)
  (.seq (.rg [o1 4 (.lit [.i .i64] [.int .i64 (-1)])])
  .ret)
  .skip))
 (.seq (.rg [o1 11 (.copy 1),
   o1 4 (.copy 11)])
 .ret))))
def s_lszSaidS : Sig := ⟨[.rd false [.sl (.own none) [.d, .d, .d, .d, .d, .d]], .rd false [.d]], (.one false [.d])⟩
noncomputable def E_lszSaidS : TEnv := envOf []
noncomputable def f_lszSaidS (n : Nat) : (List (Int × Int × Int × Int × Int × Int)) × Int → Option ((Int) × Unit) := runFn n E_lszSaidS c_lszSaidS [[.sl [.i .i64, .i .i64, .i .i64, .i .i64, .i .i64, .i .i64]], [.i .i64]] [.i .i64] [] [4] .no
noncomputable def g_lszSaidS := f_lszSaidS BIG
noncomputable def p_lszSaidS : TSp := ⟨s_lszSaidS, [[.sl [.i .i64, .i .i64, .i .i64, .i .i64, .i .i64, .i .i64]], [.i .i64]], [.i .i64], [], Ou.j .no, g_lszSaidS⟩
theorem k_lszSaidS : chkW PG E_lszSaidS 118 s_lszSaidS (c_lszSaidS.ht 12) .no = some (c_lszSaidS.wc E_lszSaidS, [4]) := by kernel_rfl
theorem ok_lszSaidS : p_lszSaidS.Ok PG 118 := mkOk (env_nil PG) k_lszSaidS (by kernel_rfl)
theorem e_lszSaidS (n : Nat) (a0 : List (Int × Int × Int × Int × Int × Int)) (a1 : Int) : f_lszSaidS n (a0, a1) =
  bif decide ((IntKind.wrap .i64 (a1 - (a0.length : Int))) < (0 : Int)) then
   some ((-1 : Int), ())
  else some (IntKind.wrap .i64 (a1 - (a0.length : Int)), ()) := by kernel_rfl
def c_lszHead : TC :=
 (.seq (.rg [o1 2 (.a (.t 0)),
   o1 4 (.lit [.i .i64] [.int .i64 (0)])])
 (.seq (.rg [o1 5 (.idx .nil),
   o1 6 (.load 2 [] 1 (.t 5) 1 false),
   o1 7 (.copy 1),
   o3 8 114 [.t 6, .t 7],
   o1 1 (.copy 8)])
 (.seq (.seq (.rg [o1 9 (.copy 1),
   o1 10 (.data (.bin .lss) [.t 9, .c (.int .i64 (0))])])
 (.cond (.t 10)
  (.seq (.rg [o1 4 (.lit [.i .i64] [.int .i64 (-1)])])
  .ret)
  .skip))
 (.seq (.rg [o1 11 (.idx .nil),
   o1 12 (.load 2 [] 2 (.t 11) 1 false),
   o1 13 (.copy 1),
   o3 14 115 [.t 12, .t 13],
   o1 1 (.copy 14)])
 (.seq (.seq (.rg [o1 15 (.copy 1),
   o1 16 (.data (.bin .lss) [.t 15, .c (.int .i64 (0))])])
 (.cond (.t 16)
  (.seq (.rg [o1 4 (.lit [.i .i64] [.int .i64 (-1)])])
  .ret)
  .skip))
 (.seq (.rg [o1 17 (.idx .nil),
   o1 18 (.load 2 [] 3 (.t 17) 1 false),
   o1 19 (.copy 1),
   o3 20 116 [.t 18, .t 19],
   o1 1 (.copy 20)])
 (.seq (.seq (.rg [o1 21 (.copy 1),
   o1 22 (.data (.bin .lss) [.t 21, .c (.int .i64 (0))])])
 (.cond (.t 22)
  (.seq (.rg [o1 4 (.lit [.i .i64] [.int .i64 (-1)])])
  .ret)
  .skip))
 (.seq (.rg [o1 23 (.idx .nil),
   o1 24 (.load 2 [] 4 (.t 23) 1 false),
   o1 25 (.copy 1),
   o3 26 114 [.t 24, .t 25],
   o1 1 (.copy 26)])
 (.seq (.seq (.rg [o1 27 (.copy 1),
   o1 28 (.data (.bin .lss) [.t 27, .c (.int .i64 (0))])])
 (.cond (.t 28)
  (.seq (.rg [o1 4 (.lit [.i .i64] [.int .i64 (-1)])])
  .ret)
  .skip))
 (.seq (.rg [o1 29 (.idx .nil),
   o1 30 (.load 2 [] 5 (.t 29) 9 false),
   o1 31 (.copy 1),
   o3 32 117 [.t 30, .t 31],
   o1 1 (.copy 32)])
 (.seq (.seq (.rg [o1 33 (.copy 1),
   o1 34 (.data (.bin .lss) [.t 33, .c (.int .i64 (0))])])
 (.cond (.t 34)
  (.seq (.rg [o1 4 (.lit [.i .i64] [.int .i64 (-1)])])
  .ret)
  .skip))
 (.seq (.rg [o1 35 (.idx .nil),
   o1 36 (.load 2 [] 14 (.t 35) 1 false),
   o1 37 (.copy 1),
   o3 38 118 [.t 36, .t 37],
   o1 1 (.copy 38)])
 (.seq (.seq (.rg [o1 39 (.copy 1),
   o1 40 (.data (.bin .lss) [.t 39, .c (.int .i64 (0))])])
 (.cond (.t 40)
  (.seq (.rg [o1 4 (.lit [.i .i64] [.int .i64 (-1)])])
  .ret)
  .skip))
 (.seq (.rg [o1 41 (.copy 1),
   o1 4 (.copy 41)])
 .ret))))))))))))))
def s_lszHead : Sig := ⟨[.rd true [.d, .sl (.own none) [.d], .sl (.own none) [.d, .d], .sl (.own none) [.sl (.own none) [.d]], .sl (.own none) [.d], .d, .d, .d, .d, .d, .d, .d, .sl (.own none) [.d, .d], .d, .sl (.own none) [.d, .d, .d, .d, .d, .d]], .rd false [.d]], (.one false [.d])⟩
noncomputable def E_lszHead : TEnv := envOf [(114, p_lszIntS), (115, p_lszEdgeS), (116, p_lszIntSS), (117, p_lszTask), (118, p_lszSaidS)]
noncomputable def f_lszHead (n : Nat) : (Int × List (Int) × List (Int × Int) × List (List (Int)) × List (Int) × Int × Int × Int × Int × Int × Int × Int × List (Int × Int) × Int × List (Int × Int × Int × Int × Int × Int)) × Int → Option ((Int) × Unit) := runFn n E_lszHead c_lszHead [[.i .i64, .sl [.i .i64], .sl [.i .i64, .i .i64], .sl [.sl [.i .i64]], .sl [.i .i64], .i .i64, .i .i64, .i .i64, .i .i64, .i .i64, .i .i64, .i .i64, .sl [.i .i64, .i .i64], .i .i64, .sl [.i .i64, .i .i64, .i .i64, .i .i64, .i .i64, .i .i64]], [.i .i64]] [.i .i64] [] [4] .no
noncomputable def g_lszHead := f_lszHead BIG
noncomputable def p_lszHead : TSp := ⟨s_lszHead, [[.i .i64, .sl [.i .i64], .sl [.i .i64, .i .i64], .sl [.sl [.i .i64]], .sl [.i .i64], .i .i64, .i .i64, .i .i64, .i .i64, .i .i64, .i .i64, .i .i64, .sl [.i .i64, .i .i64], .i .i64, .sl [.i .i64, .i .i64, .i .i64, .i .i64, .i .i64, .i .i64]], [.i .i64]], [.i .i64], [], Ou.j .no, g_lszHead⟩
theorem k_lszHead : chkW PG E_lszHead 48 s_lszHead (c_lszHead.ht 42) .no = some (c_lszHead.wc E_lszHead, [4]) := by kernel_rfl
theorem ok_lszHead : p_lszHead.Ok PG 48 := mkOk (env_cons ok_lszIntS (env_cons ok_lszEdgeS (env_cons ok_lszIntSS (env_cons ok_lszTask (env_cons ok_lszSaidS (env_nil PG)))))) k_lszHead (by kernel_rfl)
theorem e_lszHead (n : Nat) (a0 : Int × List (Int) × List (Int × Int) × List ((List (Int))) × List (Int) × Int × Int × Int × Int × Int × Int × Int × List (Int × Int) × Int × List (Int × Int × Int × Int × Int × Int)) (a1 : Int) : f_lszHead n (a0, a1) =
  Option.bind (g_lszIntS (a0.2.1, a1)) fun r0 =>
  bif decide (r0.1 < (0 : Int)) then
   some ((-1 : Int), ())
  else Option.bind (g_lszEdgeS (a0.2.2.1, r0.1)) fun r1 =>
  bif decide (r1.1 < (0 : Int)) then
   some ((-1 : Int), ())
  else Option.bind (g_lszIntSS (a0.2.2.2.1, r1.1)) fun r2 =>
  bif decide (r2.1 < (0 : Int)) then
   some ((-1 : Int), ())
  else Option.bind (g_lszIntS (a0.2.2.2.2.1, r2.1)) fun r3 =>
  bif decide (r3.1 < (0 : Int)) then
   some ((-1 : Int), ())
  else Option.bind (g_lszTask ((a0.2.2.2.2.2.1, a0.2.2.2.2.2.2.1, a0.2.2.2.2.2.2.2.1, a0.2.2.2.2.2.2.2.2.1, a0.2.2.2.2.2.2.2.2.2.1, a0.2.2.2.2.2.2.2.2.2.2.1, a0.2.2.2.2.2.2.2.2.2.2.2.1, a0.2.2.2.2.2.2.2.2.2.2.2.2.1, a0.2.2.2.2.2.2.2.2.2.2.2.2.2.1), r3.1)) fun r4 =>
  bif decide (r4.1 < (0 : Int)) then
   some ((-1 : Int), ())
  else Option.bind (g_lszSaidS (a0.2.2.2.2.2.2.2.2.2.2.2.2.2.2, r4.1)) fun r5 =>
  bif decide (r5.1 < (0 : Int)) then
   some ((-1 : Int), ())
  else some (r5.1, ()) := by kernel_rfl
def c_lszLedgeS : TC :=
 (.seq (.rg [o1 4 (.lit [.i .i64] [.int .i64 (0)])])
 (.seq (.rg [o1 5 (.copy 1),
   o1 6 (.copy 0),
   o1 7 (.len 6),
   o1 8 (.data (.bin .sub) [.t 5, .t 7]),
   o1 1 (.copy 8)])
 (.seq (.seq (.rg [o1 9 (.copy 1),
   o1 10 (.data (.bin .lss) [.t 9, .c (.int .i64 (0))])])
 (.cond (.t 10)
  (.seq (.rg [o1 4 (.lit [.i .i64] [.int .i64 (-1)])])
  .ret)
  .skip))
 (.seq (.rg [o1 11 (.copy 1),
   o1 4 (.copy 11)])
 .ret))))
def s_lszLedgeS : Sig := ⟨[.rd false [.sl (.own none) [.d, .d, .d, .d]], .rd false [.d]], (.one false [.d])⟩
noncomputable def E_lszLedgeS : TEnv := envOf []
noncomputable def f_lszLedgeS (n : Nat) : (List (Int × Int × Int × Bool)) × Int → Option ((Int) × Unit) := runFn n E_lszLedgeS c_lszLedgeS [[.sl [.i .i64, .i .i64, .i .i64, .b]], [.i .i64]] [.i .i64] [] [4] .no
noncomputable def g_lszLedgeS := f_lszLedgeS BIG
noncomputable def p_lszLedgeS : TSp := ⟨s_lszLedgeS, [[.sl [.i .i64, .i .i64, .i .i64, .b]], [.i .i64]], [.i .i64], [], Ou.j .no, g_lszLedgeS⟩
theorem k_lszLedgeS : chkW PG E_lszLedgeS 189 s_lszLedgeS (c_lszLedgeS.ht 12) .no = some (c_lszLedgeS.wc E_lszLedgeS, [4]) := by kernel_rfl
theorem ok_lszLedgeS : p_lszLedgeS.Ok PG 189 := mkOk (env_nil PG) k_lszLedgeS (by kernel_rfl)
theorem e_lszLedgeS (n : Nat) (a0 : List (Int × Int × Int × Bool)) (a1 : Int) : f_lszLedgeS n (a0, a1) =
  bif decide ((IntKind.wrap .i64 (a1 - (a0.length : Int))) < (0 : Int)) then
   some ((-1 : Int), ())
  else some (IntKind.wrap .i64 (a1 - (a0.length : Int)), ()) := by kernel_rfl
def c_lszWeb : TC :=
 (.seq (.rg [o1 2 (.a (.t 0)),
   o1 4 (.lit [.i .i64] [.int .i64 (0)])])
 (.seq (.rg [o1 5 (.idx .nil),
   o1 6 (.load 2 [] 1 (.t 5) 1 false),
   o1 7 (.copy 1),
   o3 8 189 [.t 6, .t 7],
   o1 1 (.copy 8)])
 (.seq (.seq (.rg [o1 9 (.copy 1),
   o1 10 (.data (.bin .lss) [.t 9, .c (.int .i64 (0))])])
 (.cond (.t 10)
  (.seq (.rg [o1 4 (.lit [.i .i64] [.int .i64 (-1)])])
  .ret)
  .skip))
 (.seq (.rg [o1 11 (.copy 1),
   o1 4 (.copy 11)])
 .ret))))
def s_lszWeb : Sig := ⟨[.rd true [.d, .sl (.own none) [.d, .d, .d, .d]], .rd false [.d]], (.one false [.d])⟩
noncomputable def E_lszWeb : TEnv := envOf [(189, p_lszLedgeS)]
noncomputable def f_lszWeb (n : Nat) : (Int × List (Int × Int × Int × Bool)) × Int → Option ((Int) × Unit) := runFn n E_lszWeb c_lszWeb [[.i .i64, .sl [.i .i64, .i .i64, .i .i64, .b]], [.i .i64]] [.i .i64] [] [4] .no
noncomputable def g_lszWeb := f_lszWeb BIG
noncomputable def p_lszWeb : TSp := ⟨s_lszWeb, [[.i .i64, .sl [.i .i64, .i .i64, .i .i64, .b]], [.i .i64]], [.i .i64], [], Ou.j .no, g_lszWeb⟩
theorem k_lszWeb : chkW PG E_lszWeb 166 s_lszWeb (c_lszWeb.ht 12) .no = some (c_lszWeb.wc E_lszWeb, [4]) := by kernel_rfl
theorem ok_lszWeb : p_lszWeb.Ok PG 166 := mkOk (env_cons ok_lszLedgeS (env_nil PG)) k_lszWeb (by kernel_rfl)
theorem e_lszWeb (n : Nat) (a0 : Int × List (Int × Int × Int × Bool)) (a1 : Int) : f_lszWeb n (a0, a1) =
  Option.bind (g_lszLedgeS (a0.2, a1)) fun r0 =>
  bif decide (r0.1 < (0 : Int)) then
   some ((-1 : Int), ())
  else some (r0.1, ()) := by kernel_rfl
def c_lszAnswer : TC :=
 (.seq (.rg [o1 2 (.a (.t 0)),
   o1 4 (.lit [.i .i64] [.int .i64 (0)])])
 (.seq (.rg [o1 5 (.idx .nil),
   o1 6 (.load 2 [] 2 (.t 5) 1 false),
   o1 7 (.copy 1),
   o3 8 115 [.t 6, .t 7],
   o1 1 (.copy 8)])
 (.seq (.seq (.rg [o1 9 (.copy 1),
   o1 10 (.data (.bin .lss) [.t 9, .c (.int .i64 (0))])])
 (.cond (.t 10)
  (.seq (.rg [o1 4 (.lit [.i .i64] [.int .i64 (-1)])])
  .ret)
  .skip))
 (.seq (.rg [o1 11 (.idx .nil),
   o1 12 (.load 2 [] 3 (.t 11) 1 false),
   o1 13 (.copy 1),
   o3 14 114 [.t 12, .t 13],
   o1 1 (.copy 14)])
 (.seq (.seq (.rg [o1 15 (.copy 1),
   o1 16 (.data (.bin .lss) [.t 15, .c (.int .i64 (0))])])
 (.cond (.t 16)
  (.seq (.rg [o1 4 (.lit [.i .i64] [.int .i64 (-1)])])
  .ret)
  .skip))
 (.seq (.rg [o1 17 (.copy 1),
   o1 4 (.copy 17)])
 .ret))))))
def s_lszAnswer : Sig := ⟨[.rd true [.d, .d, .sl (.own none) [.d, .d], .sl (.own none) [.d]], .rd false [.d]], (.one false [.d])⟩
noncomputable def E_lszAnswer : TEnv := envOf [(115, p_lszEdgeS), (114, p_lszIntS)]
noncomputable def f_lszAnswer (n : Nat) : (Int × Bool × List (Int × Int) × List (Int)) × Int → Option ((Int) × Unit) := runFn n E_lszAnswer c_lszAnswer [[.i .i64, .b, .sl [.i .i64, .i .i64], .sl [.i .i64]], [.i .i64]] [.i .i64] [] [4] .no
noncomputable def g_lszAnswer := f_lszAnswer BIG
noncomputable def p_lszAnswer : TSp := ⟨s_lszAnswer, [[.i .i64, .b, .sl [.i .i64, .i .i64], .sl [.i .i64]], [.i .i64]], [.i .i64], [], Ou.j .no, g_lszAnswer⟩
theorem k_lszAnswer : chkW PG E_lszAnswer 81 s_lszAnswer (c_lszAnswer.ht 18) .no = some (c_lszAnswer.wc E_lszAnswer, [4]) := by kernel_rfl
theorem ok_lszAnswer : p_lszAnswer.Ok PG 81 := mkOk (env_cons ok_lszEdgeS (env_cons ok_lszIntS (env_nil PG))) k_lszAnswer (by kernel_rfl)
theorem e_lszAnswer (n : Nat) (a0 : Int × Bool × List (Int × Int) × List (Int)) (a1 : Int) : f_lszAnswer n (a0, a1) =
  Option.bind (g_lszEdgeS (a0.2.2.1, a1)) fun r0 =>
  bif decide (r0.1 < (0 : Int)) then
   some ((-1 : Int), ())
  else Option.bind (g_lszIntS (a0.2.2.2, r0.1)) fun r1 =>
  bif decide (r1.1 < (0 : Int)) then
   some ((-1 : Int), ())
  else some (r1.1, ()) := by kernel_rfl
def c_lszShard : TC :=
 (.seq (.rg [o1 2 (.a (.t 0)),
   o1 4 (.lit [.i .i64] [.int .i64 (0)])])
 (.seq (.rg [o1 5 (.idx .nil),
   o1 6 (.load 2 [] 1 (.t 5) 2 false),
   o1 7 (.copy 1),
   o3 8 166 [.t 6, .t 7],
   o1 1 (.copy 8)])
 (.seq (.seq (.rg [o1 9 (.copy 1),
   o1 10 (.data (.bin .lss) [.t 9, .c (.int .i64 (0))])])
 (.cond (.t 10)
  (.seq (.rg [o1 4 (.lit [.i .i64] [.int .i64 (-1)])])
  .ret)
  .skip))
 (.seq (.rg [o1 11 (.idx .nil),
   o1 12 (.load 2 [] 3 (.t 11) 4 false),
   o1 13 (.copy 1),
   o3 14 81 [.t 12, .t 13],
   o1 1 (.copy 14)])
 (.seq (.seq (.rg [o1 15 (.copy 1),
   o1 16 (.data (.bin .lss) [.t 15, .c (.int .i64 (0))])])
 (.cond (.t 16)
  (.seq (.rg [o1 4 (.lit [.i .i64] [.int .i64 (-1)])])
  .ret)
  .skip))
 (.seq (.rg [o1 17 (.copy 1),
   o1 4 (.copy 17)])
 .ret))))))
def s_lszShard : Sig := ⟨[.rd true [.d, .d, .sl (.own none) [.d, .d, .d, .d], .d, .d, .sl (.own none) [.d, .d], .sl (.own none) [.d]], .rd false [.d]], (.one false [.d])⟩
noncomputable def E_lszShard : TEnv := envOf [(166, p_lszWeb), (81, p_lszAnswer)]
noncomputable def f_lszShard (n : Nat) : (Int × Int × List (Int × Int × Int × Bool) × Int × Bool × List (Int × Int) × List (Int)) × Int → Option ((Int) × Unit) := runFn n E_lszShard c_lszShard [[.i .i64, .i .i64, .sl [.i .i64, .i .i64, .i .i64, .b], .i .i64, .b, .sl [.i .i64, .i .i64], .sl [.i .i64]], [.i .i64]] [.i .i64] [] [4] .no
noncomputable def g_lszShard := f_lszShard BIG
noncomputable def p_lszShard : TSp := ⟨s_lszShard, [[.i .i64, .i .i64, .sl [.i .i64, .i .i64, .i .i64, .b], .i .i64, .b, .sl [.i .i64, .i .i64], .sl [.i .i64]], [.i .i64]], [.i .i64], [], Ou.j .no, g_lszShard⟩
theorem k_lszShard : chkW PG E_lszShard 119 s_lszShard (c_lszShard.ht 18) .no = some (c_lszShard.wc E_lszShard, [4]) := by kernel_rfl
theorem ok_lszShard : p_lszShard.Ok PG 119 := mkOk (env_cons ok_lszWeb (env_cons ok_lszAnswer (env_nil PG))) k_lszShard (by kernel_rfl)
theorem e_lszShard (n : Nat) (a0 : Int × Int × List (Int × Int × Int × Bool) × Int × Bool × List (Int × Int) × List (Int)) (a1 : Int) : f_lszShard n (a0, a1) =
  Option.bind (g_lszWeb ((a0.2.1, a0.2.2.1), a1)) fun r0 =>
  bif decide (r0.1 < (0 : Int)) then
   some ((-1 : Int), ())
  else Option.bind (g_lszAnswer (a0.2.2.2, r0.1)) fun r1 =>
  bif decide (r1.1 < (0 : Int)) then
   some ((-1 : Int), ())
  else some (r1.1, ()) := by kernel_rfl
def c_lszShardS : TC :=
 (.seq (.rg [o1 4 (.lit [.i .i64] [.int .i64 (0)])])
 (.seq (.rg [o1 6 (.copy 1),
   o1 7 (.copy 0),
   o1 8 (.len 7),
   o1 9 (.data (.bin .sub) [.t 6, .t 8]),
   o1 1 (.copy 9)])
 (.seq (.seq (.rg [o1 10 (.copy 1),
   o1 11 (.data (.bin .lss) [.t 10, .c (.int .i64 (0))])])
 (.cond (.t 11)
  (.seq (.rg [o1 4 (.lit [.i .i64] [.int .i64 (-1)])])
  .ret)
  .skip))
 (.seq (.join [⟨1, [.i .i64], false⟩] 67104818 (some [⟨4, [.i .i64], false⟩]) (.seq (.rg [o1 5 (.lit [.i .i64] [.int .i64 (0)])])
 (.block 0 (.loop [⟨1, [.i .i64], false⟩, ⟨5, [.i .i64], false⟩] 67104818
  (.seq (.seq (.rg [o1 12 (.copy 5),
    o1 13 (.copy 0),
    o1 14 (.len 13),
    o1 15 (.data (.bin .lss) [.t 12, .t 14])])
  (.cond (.t 15)
   .skip
   (.exit 0)))
  (.seq (.block 1 (.seq (.rg [o1 18 (.copy 0),
    o1 19 (.copy 5),
    o1 20 (.index 18 (.t 19)),
    o1 21 (.load 18 [(0, 7)] 0 (.t 20) 7 false),
    o1 22 (.copy 1),
    o3 23 119 [.t 21, .t 22],
    o1 1 (.copy 23)])
  (.seq (.rg [o1 24 (.copy 1),
    o1 25 (.data (.bin .lss) [.t 24, .c (.int .i64 (0))])])
  (.cond (.t 25)
   (.seq (.rg [o1 4 (.lit [.i .i64] [.int .i64 (-1)])])
   .ret)
   .skip))))
  (.rg [o1 16 (.copy 5),
    o1 17 (.data (.bin .add) [.t 16, .c (.int .i64 (1))]),
    o1 5 (.copy 17)])))))))
 (.seq (.rg [o1 26 (.copy 1),
   o1 4 (.copy 26)])
 .ret)))))
def s_lszShardS : Sig := ⟨[.rd false [.sl (.own none) [.d, .d, .sl (.own none) [.d, .d, .d, .d], .d, .d, .sl (.own none) [.d, .d], .sl (.own none) [.d]]], .rd false [.d]], (.one false [.d])⟩
noncomputable def E_lszShardS : TEnv := envOf [(119, p_lszShard)]
noncomputable def f_lszShardS (n : Nat) : (List (Int × Int × List (Int × Int × Int × Bool) × Int × Bool × List (Int × Int) × List (Int))) × Int → Option ((Int) × Unit) := runFn n E_lszShardS c_lszShardS [[.sl [.i .i64, .i .i64, .sl [.i .i64, .i .i64, .i .i64, .b], .i .i64, .b, .sl [.i .i64, .i .i64], .sl [.i .i64]]], [.i .i64]] [.i .i64] [] [4] .no
noncomputable def g_lszShardS := f_lszShardS BIG
noncomputable def p_lszShardS : TSp := ⟨s_lszShardS, [[.sl [.i .i64, .i .i64, .sl [.i .i64, .i .i64, .i .i64, .b], .i .i64, .b, .sl [.i .i64, .i .i64], .sl [.i .i64]]], [.i .i64]], [.i .i64], [], Ou.j .no, g_lszShardS⟩
theorem k_lszShardS : chkW PG E_lszShardS 49 s_lszShardS (c_lszShardS.ht 27) .no = some (c_lszShardS.wc E_lszShardS, [4]) := by kernel_rfl
theorem ok_lszShardS : p_lszShardS.Ok PG 49 := mkOk (env_cons ok_lszShard (env_nil PG)) k_lszShardS (by kernel_rfl)
theorem e_lszShardS (n : Nat) (a0 : List (Int × Int × (List (Int × Int × Int × Bool)) × Int × Bool × (List (Int × Int)) × (List (Int)))) (a1 : Int) : f_lszShardS n (a0, a1) =
  bif decide ((IntKind.wrap .i64 (a1 - (a0.length : Int))) < (0 : Int)) then
   some ((-1 : Int), ())
  else Option.bind (loopT n (X := Int × Int) (B := (Int) ⊕ (Int)) (fun self1 x0 =>
    bif decide (x0.2 < (a0.length : Int)) then
     bnd a0.length x0.2 fun n2 =>
     Option.bind a0[n2]? fun y3 =>
     Option.bind (g_lszShard (y3, x0.1)) fun r4 =>
     bif decide (r4.1 < (0 : Int)) then
      some (Sum.inr (-1 : Int))
     else self1 (r4.1, IntKind.wrap .i64 (x0.2 + (1 : Int)))
    else some (Sum.inl x0.1)) (IntKind.wrap .i64 (a1 - (a0.length : Int)), (0 : Int)) : Option ((Int) ⊕ (Int))) fun y => match y with
  | .inl x5 =>
   some (x5, ())
  | .inr x5 =>
   some (x5, ()) := by kernel_rfl
def c_lszFile : TC :=
 (.seq (.rg [o1 2 (.a (.t 0)),
   o1 4 (.lit [.i .i64] [.int .i64 (0)])])
 (.seq (.rg [o1 5 (.copy 1),
   o1 6 (.idx .nil),
   o1 7 (.load 2 [] 0 (.t 6) 1 false),
   o1 8 (.data .slen [.t 7]),
   o1 9 (.data (.bin .sub) [.t 5, .t 8]),
   o1 1 (.copy 9)])
 (.seq (.seq (.rg [o1 10 (.copy 1),
   o1 11 (.data (.bin .lss) [.t 10, .c (.int .i64 (0))])])
 (.cond (.t 11)
  (.seq (.rg [o1 4 (.lit [.i .i64] [.int .i64 (-1)])])
  .ret)
  .skip))
 (.seq (.rg [o1 12 (.copy 1),
   o1 13 (.idx .nil),
   o1 14 (.load 2 [] 1 (.t 13) 1 false),
   o1 15 (.data .slen [.t 14]),
   o1 16 (.data (.bin .sub) [.t 12, .t 15]),
   o1 1 (.copy 16)])
 (.seq (.seq (.rg [o1 17 (.copy 1),
   o1 18 (.data (.bin .lss) [.t 17, .c (.int .i64 (0))])])
 (.cond (.t 18)
  (.seq (.rg [o1 4 (.lit [.i .i64] [.int .i64 (-1)])])
  .ret)
  .skip))
 (.seq (.rg [o1 19 (.copy 1),
   o1 4 (.copy 19)])
 .ret))))))
def s_lszFile : Sig := ⟨[.rd true [.d, .d, .d], .rd false [.d]], (.one false [.d])⟩
noncomputable def E_lszFile : TEnv := envOf []
noncomputable def f_lszFile (n : Nat) : (ByteArray × ByteArray × Int) × Int → Option ((Int) × Unit) := runFn n E_lszFile c_lszFile [[.s, .s, .i .i64], [.i .i64]] [.i .i64] [] [4] .no
noncomputable def g_lszFile := f_lszFile BIG
noncomputable def p_lszFile : TSp := ⟨s_lszFile, [[.s, .s, .i .i64], [.i .i64]], [.i .i64], [], Ou.j .no, g_lszFile⟩
theorem k_lszFile : chkW PG E_lszFile 190 s_lszFile (c_lszFile.ht 20) .no = some (c_lszFile.wc E_lszFile, [4]) := by kernel_rfl
theorem ok_lszFile : p_lszFile.Ok PG 190 := mkOk (env_nil PG) k_lszFile (by kernel_rfl)
theorem e_lszFile (n : Nat) (a0 : ByteArray × ByteArray × Int) (a1 : Int) : f_lszFile n (a0, a1) =
  bif decide ((IntKind.wrap .i64 (a1 - (a0.1.size : Int))) < (0 : Int)) then
   some ((-1 : Int), ())
  else bif decide ((IntKind.wrap .i64 ((IntKind.wrap .i64 (a1 - (a0.1.size : Int))) - (a0.2.1.size : Int))) < (0 : Int)) then
   some ((-1 : Int), ())
  else some (IntKind.wrap .i64 ((IntKind.wrap .i64 (a1 - (a0.1.size : Int))) - (a0.2.1.size : Int)), ()) := by kernel_rfl
def c_lszFileS : TC :=
 (.seq (.rg [o1 4 (.lit [.i .i64] [.int .i64 (0)])])
 (.seq (.rg [o1 6 (.copy 1),
   o1 7 (.copy 0),
   o1 8 (.len 7),
   o1 9 (.data (.bin .sub) [.t 6, .t 8]),
   o1 1 (.copy 9)])
 (.seq (.seq (.rg [o1 10 (.copy 1),
   o1 11 (.data (.bin .lss) [.t 10, .c (.int .i64 (0))])])
 (.cond (.t 11)
  (.seq (.rg [o1 4 (.lit [.i .i64] [.int .i64 (-1)])])
  .ret)
  .skip))
 (.seq (.join [⟨1, [.i .i64], false⟩] 67104818 (some [⟨4, [.i .i64], false⟩]) (.seq (.rg [o1 5 (.lit [.i .i64] [.int .i64 (0)])])
 (.block 0 (.loop [⟨1, [.i .i64], false⟩, ⟨5, [.i .i64], false⟩] 67104818
  (.seq (.seq (.rg [o1 12 (.copy 5),
    o1 13 (.copy 0),
    o1 14 (.len 13),
    o1 15 (.data (.bin .lss) [.t 12, .t 14])])
  (.cond (.t 15)
   .skip
   (.exit 0)))
  (.seq (.block 1 (.seq (.rg [o1 18 (.copy 0),
    o1 19 (.copy 5),
    o1 20 (.index 18 (.t 19)),
    o1 21 (.load 18 [(0, 3)] 0 (.t 20) 3 false),
    o1 22 (.copy 1),
    o3 23 190 [.t 21, .t 22],
    o1 1 (.copy 23)])
  (.seq (.rg [o1 24 (.copy 1),
    o1 25 (.data (.bin .lss) [.t 24, .c (.int .i64 (0))])])
  (.cond (.t 25)
   (.seq (.rg [o1 4 (.lit [.i .i64] [.int .i64 (-1)])])
   .ret)
   .skip))))
  (.rg [o1 16 (.copy 5),
    o1 17 (.data (.bin .add) [.t 16, .c (.int .i64 (1))]),
    o1 5 (.copy 17)])))))))
 (.seq (.rg [o1 26 (.copy 1),
   o1 4 (.copy 26)])
 .ret)))))
def s_lszFileS : Sig := ⟨[.rd false [.sl (.own none) [.d, .d, .d]], .rd false [.d]], (.one false [.d])⟩
noncomputable def E_lszFileS : TEnv := envOf [(190, p_lszFile)]
noncomputable def f_lszFileS (n : Nat) : (List (ByteArray × ByteArray × Int)) × Int → Option ((Int) × Unit) := runFn n E_lszFileS c_lszFileS [[.sl [.s, .s, .i .i64]], [.i .i64]] [.i .i64] [] [4] .no
noncomputable def g_lszFileS := f_lszFileS BIG
noncomputable def p_lszFileS : TSp := ⟨s_lszFileS, [[.sl [.s, .s, .i .i64]], [.i .i64]], [.i .i64], [], Ou.j .no, g_lszFileS⟩
theorem k_lszFileS : chkW PG E_lszFileS 167 s_lszFileS (c_lszFileS.ht 27) .no = some (c_lszFileS.wc E_lszFileS, [4]) := by kernel_rfl
theorem ok_lszFileS : p_lszFileS.Ok PG 167 := mkOk (env_cons ok_lszFile (env_nil PG)) k_lszFileS (by kernel_rfl)
theorem e_lszFileS (n : Nat) (a0 : List (ByteArray × ByteArray × Int)) (a1 : Int) : f_lszFileS n (a0, a1) =
  bif decide ((IntKind.wrap .i64 (a1 - (a0.length : Int))) < (0 : Int)) then
   some ((-1 : Int), ())
  else Option.bind (loopT n (X := Int × Int) (B := (Int) ⊕ (Int)) (fun self1 x0 =>
    bif decide (x0.2 < (a0.length : Int)) then
     bnd a0.length x0.2 fun n2 =>
     Option.bind a0[n2]? fun y3 =>
     Option.bind (g_lszFile (y3, x0.1)) fun r4 =>
     bif decide (r4.1 < (0 : Int)) then
      some (Sum.inr (-1 : Int))
     else self1 (r4.1, IntKind.wrap .i64 (x0.2 + (1 : Int)))
    else some (Sum.inl x0.1)) (IntKind.wrap .i64 (a1 - (a0.length : Int)), (0 : Int)) : Option ((Int) ⊕ (Int))) fun y => match y with
  | .inl x5 =>
   some (x5, ())
  | .inr x5 =>
   some (x5, ()) := by kernel_rfl
def c_lszDisk : TC :=
 (.seq (.rg [o1 2 (.a (.t 0)),
   o1 4 (.lit [.i .i64] [.int .i64 (0)])])
 (.seq (.rg [o1 5 (.idx .nil),
   o1 6 (.load 2 [] 0 (.t 5) 1 false),
   o1 7 (.copy 1),
   o3 8 167 [.t 6, .t 7],
   o1 1 (.copy 8)])
 (.seq (.seq (.rg [o1 9 (.copy 1),
   o1 10 (.data (.bin .lss) [.t 9, .c (.int .i64 (0))])])
 (.cond (.t 10)
  (.seq (.rg [o1 4 (.lit [.i .i64] [.int .i64 (-1)])])
  .ret)
  .skip))
 (.seq (.rg [o1 11 (.copy 1),
   o1 4 (.copy 11)])
 .ret))))
def s_lszDisk : Sig := ⟨[.rd true [.sl (.own none) [.d, .d, .d]], .rd false [.d]], (.one false [.d])⟩
noncomputable def E_lszDisk : TEnv := envOf [(167, p_lszFileS)]
noncomputable def f_lszDisk (n : Nat) : (List (ByteArray × ByteArray × Int)) × Int → Option ((Int) × Unit) := runFn n E_lszDisk c_lszDisk [[.sl [.s, .s, .i .i64]], [.i .i64]] [.i .i64] [] [4] .no
noncomputable def g_lszDisk := f_lszDisk BIG
noncomputable def p_lszDisk : TSp := ⟨s_lszDisk, [[.sl [.s, .s, .i .i64]], [.i .i64]], [.i .i64], [], Ou.j .no, g_lszDisk⟩
theorem k_lszDisk : chkW PG E_lszDisk 120 s_lszDisk (c_lszDisk.ht 12) .no = some (c_lszDisk.wc E_lszDisk, [4]) := by kernel_rfl
theorem ok_lszDisk : p_lszDisk.Ok PG 120 := mkOk (env_cons ok_lszFileS (env_nil PG)) k_lszDisk (by kernel_rfl)
theorem e_lszDisk (n : Nat) (a0 : List (ByteArray × ByteArray × Int)) (a1 : Int) : f_lszDisk n (a0, a1) =
  Option.bind (g_lszFileS (a0, a1)) fun r0 =>
  bif decide (r0.1 < (0 : Int)) then
   some ((-1 : Int), ())
  else some (r0.1, ()) := by kernel_rfl
def c_lszDiskS : TC :=
 (.seq (.rg [o1 4 (.lit [.i .i64] [.int .i64 (0)])])
 (.seq (.rg [o1 6 (.copy 1),
   o1 7 (.copy 0),
   o1 8 (.len 7),
   o1 9 (.data (.bin .sub) [.t 6, .t 8]),
   o1 1 (.copy 9)])
 (.seq (.seq (.rg [o1 10 (.copy 1),
   o1 11 (.data (.bin .lss) [.t 10, .c (.int .i64 (0))])])
 (.cond (.t 11)
  (.seq (.rg [o1 4 (.lit [.i .i64] [.int .i64 (-1)])])
  .ret)
  .skip))
 (.seq (.join [⟨1, [.i .i64], false⟩] 67104818 (some [⟨4, [.i .i64], false⟩]) (.seq (.rg [o1 5 (.lit [.i .i64] [.int .i64 (0)])])
 (.block 0 (.loop [⟨1, [.i .i64], false⟩, ⟨5, [.i .i64], false⟩] 67104818
  (.seq (.seq (.rg [o1 12 (.copy 5),
    o1 13 (.copy 0),
    o1 14 (.len 13),
    o1 15 (.data (.bin .lss) [.t 12, .t 14])])
  (.cond (.t 15)
   .skip
   (.exit 0)))
  (.seq (.block 1 (.seq (.rg [o1 18 (.copy 0),
    o1 19 (.copy 5),
    o1 20 (.index 18 (.t 19)),
    o1 21 (.load 18 [(0, 1)] 0 (.t 20) 1 false),
    o1 22 (.copy 1),
    o3 23 120 [.t 21, .t 22],
    o1 1 (.copy 23)])
  (.seq (.rg [o1 24 (.copy 1),
    o1 25 (.data (.bin .lss) [.t 24, .c (.int .i64 (0))])])
  (.cond (.t 25)
   (.seq (.rg [o1 4 (.lit [.i .i64] [.int .i64 (-1)])])
   .ret)
   .skip))))
  (.rg [o1 16 (.copy 5),
    o1 17 (.data (.bin .add) [.t 16, .c (.int .i64 (1))]),
    o1 5 (.copy 17)])))))))
 (.seq (.rg [o1 26 (.copy 1),
   o1 4 (.copy 26)])
 .ret)))))
def s_lszDiskS : Sig := ⟨[.rd false [.sl (.own none) [.sl (.own none) [.d, .d, .d]]], .rd false [.d]], (.one false [.d])⟩
noncomputable def E_lszDiskS : TEnv := envOf [(120, p_lszDisk)]
noncomputable def f_lszDiskS (n : Nat) : (List (List (ByteArray × ByteArray × Int))) × Int → Option ((Int) × Unit) := runFn n E_lszDiskS c_lszDiskS [[.sl [.sl [.s, .s, .i .i64]]], [.i .i64]] [.i .i64] [] [4] .no
noncomputable def g_lszDiskS := f_lszDiskS BIG
noncomputable def p_lszDiskS : TSp := ⟨s_lszDiskS, [[.sl [.sl [.s, .s, .i .i64]]], [.i .i64]], [.i .i64], [], Ou.j .no, g_lszDiskS⟩
theorem k_lszDiskS : chkW PG E_lszDiskS 50 s_lszDiskS (c_lszDiskS.ht 27) .no = some (c_lszDiskS.wc E_lszDiskS, [4]) := by kernel_rfl
theorem ok_lszDiskS : p_lszDiskS.Ok PG 50 := mkOk (env_cons ok_lszDisk (env_nil PG)) k_lszDiskS (by kernel_rfl)
theorem e_lszDiskS (n : Nat) (a0 : List ((List (ByteArray × ByteArray × Int)))) (a1 : Int) : f_lszDiskS n (a0, a1) =
  bif decide ((IntKind.wrap .i64 (a1 - (a0.length : Int))) < (0 : Int)) then
   some ((-1 : Int), ())
  else Option.bind (loopT n (X := Int × Int) (B := (Int) ⊕ (Int)) (fun self1 x0 =>
    bif decide (x0.2 < (a0.length : Int)) then
     bnd a0.length x0.2 fun n2 =>
     Option.bind a0[n2]? fun y3 =>
     Option.bind (g_lszDisk (y3, x0.1)) fun r4 =>
     bif decide (r4.1 < (0 : Int)) then
      some (Sum.inr (-1 : Int))
     else self1 (r4.1, IntKind.wrap .i64 (x0.2 + (1 : Int)))
    else some (Sum.inl x0.1)) (IntKind.wrap .i64 (a1 - (a0.length : Int)), (0 : Int)) : Option ((Int) ⊕ (Int))) fun y => match y with
  | .inl x5 =>
   some (x5, ())
  | .inr x5 =>
   some (x5, ()) := by kernel_rfl
def c_lszBoolS : TC :=
 (.seq (.rg [o1 4 (.lit [.i .i64] [.int .i64 (0)])])
 (.seq (.rg [o1 5 (.copy 1),
   o1 6 (.copy 0),
   o1 7 (.len 6),
   o1 8 (.data (.bin .sub) [.t 5, .t 7]),
   o1 1 (.copy 8)])
 (.seq (.seq (.rg [o1 9 (.copy 1),
   o1 10 (.data (.bin .lss) [.t 9, .c (.int .i64 (0))])])
 (.cond (.t 10)
  (.seq (.rg [o1 4 (.lit [.i .i64] [.int .i64 (-1)])])
  .ret)
  .skip))
 (.seq (.rg [o1 11 (.copy 1),
   o1 4 (.copy 11)])
 .ret))))
def s_lszBoolS : Sig := ⟨[.rd false [.sl (.own none) [.d]], .rd false [.d]], (.one false [.d])⟩
noncomputable def E_lszBoolS : TEnv := envOf []
noncomputable def f_lszBoolS (n : Nat) : List (Bool) × Int → Option ((Int) × Unit) := runFn n E_lszBoolS c_lszBoolS [[.sl [.b]], [.i .i64]] [.i .i64] [] [4] .no
noncomputable def g_lszBoolS := f_lszBoolS BIG
noncomputable def p_lszBoolS : TSp := ⟨s_lszBoolS, [[.sl [.b]], [.i .i64]], [.i .i64], [], Ou.j .no, g_lszBoolS⟩
theorem k_lszBoolS : chkW PG E_lszBoolS 51 s_lszBoolS (c_lszBoolS.ht 12) .no = some (c_lszBoolS.wc E_lszBoolS, [4]) := by kernel_rfl
theorem ok_lszBoolS : p_lszBoolS.Ok PG 51 := mkOk (env_nil PG) k_lszBoolS (by kernel_rfl)
theorem e_lszBoolS (n : Nat) (a0 : List (Bool)) (a1 : Int) : f_lszBoolS n (a0, a1) =
  bif decide ((IntKind.wrap .i64 (a1 - (a0.length : Int))) < (0 : Int)) then
   some ((-1 : Int), ())
  else some (IntKind.wrap .i64 (a1 - (a0.length : Int)), ()) := by kernel_rfl
def c_lszPacket : TC :=
 (.seq (.rg [o1 2 (.a (.t 0)),
   o1 4 (.lit [.i .i64] [.int .i64 (0)])])
 (.seq (.rg [o1 5 (.copy 1),
   o1 6 (.idx .nil),
   o1 7 (.load 2 [] 2 (.t 6) 1 false),
   o1 8 (.data .slen [.t 7]),
   o1 9 (.data (.bin .sub) [.t 5, .t 8]),
   o1 1 (.copy 9)])
 (.seq (.seq (.rg [o1 10 (.copy 1),
   o1 11 (.data (.bin .lss) [.t 10, .c (.int .i64 (0))])])
 (.cond (.t 11)
  (.seq (.rg [o1 4 (.lit [.i .i64] [.int .i64 (-1)])])
  .ret)
  .skip))
 (.seq (.rg [o1 12 (.copy 1),
   o1 4 (.copy 12)])
 .ret))))
def s_lszPacket : Sig := ⟨[.rd true [.d, .d, .d], .rd false [.d]], (.one false [.d])⟩
noncomputable def E_lszPacket : TEnv := envOf []
noncomputable def f_lszPacket (n : Nat) : (Int × Int × ByteArray) × Int → Option ((Int) × Unit) := runFn n E_lszPacket c_lszPacket [[.i .i64, .i .i64, .s], [.i .i64]] [.i .i64] [] [4] .no
noncomputable def g_lszPacket := f_lszPacket BIG
noncomputable def p_lszPacket : TSp := ⟨s_lszPacket, [[.i .i64, .i .i64, .s], [.i .i64]], [.i .i64], [], Ou.j .no, g_lszPacket⟩
theorem k_lszPacket : chkW PG E_lszPacket 121 s_lszPacket (c_lszPacket.ht 13) .no = some (c_lszPacket.wc E_lszPacket, [4]) := by kernel_rfl
theorem ok_lszPacket : p_lszPacket.Ok PG 121 := mkOk (env_nil PG) k_lszPacket (by kernel_rfl)
theorem e_lszPacket (n : Nat) (a0 : Int × Int × ByteArray) (a1 : Int) : f_lszPacket n (a0, a1) =
  bif decide ((IntKind.wrap .i64 (a1 - (a0.2.2.size : Int))) < (0 : Int)) then
   some ((-1 : Int), ())
  else some (IntKind.wrap .i64 (a1 - (a0.2.2.size : Int)), ()) := by kernel_rfl
def c_lszPacketS : TC :=
 (.seq (.rg [o1 4 (.lit [.i .i64] [.int .i64 (0)])])
 (.seq (.rg [o1 6 (.copy 1),
   o1 7 (.copy 0),
   o1 8 (.len 7),
   o1 9 (.data (.bin .sub) [.t 6, .t 8]),
   o1 1 (.copy 9)])
 (.seq (.seq (.rg [o1 10 (.copy 1),
   o1 11 (.data (.bin .lss) [.t 10, .c (.int .i64 (0))])])
 (.cond (.t 11)
  (.seq (.rg [o1 4 (.lit [.i .i64] [.int .i64 (-1)])])
  .ret)
  .skip))
 (.seq (.join [⟨1, [.i .i64], false⟩] 67104818 (some [⟨4, [.i .i64], false⟩]) (.seq (.rg [o1 5 (.lit [.i .i64] [.int .i64 (0)])])
 (.block 0 (.loop [⟨1, [.i .i64], false⟩, ⟨5, [.i .i64], false⟩] 67104818
  (.seq (.seq (.rg [o1 12 (.copy 5),
    o1 13 (.copy 0),
    o1 14 (.len 13),
    o1 15 (.data (.bin .lss) [.t 12, .t 14])])
  (.cond (.t 15)
   .skip
   (.exit 0)))
  (.seq (.block 1 (.seq (.rg [o1 18 (.copy 0),
    o1 19 (.copy 5),
    o1 20 (.index 18 (.t 19)),
    o1 21 (.load 18 [(0, 3)] 0 (.t 20) 3 false),
    o1 22 (.copy 1),
    o3 23 121 [.t 21, .t 22],
    o1 1 (.copy 23)])
  (.seq (.rg [o1 24 (.copy 1),
    o1 25 (.data (.bin .lss) [.t 24, .c (.int .i64 (0))])])
  (.cond (.t 25)
   (.seq (.rg [o1 4 (.lit [.i .i64] [.int .i64 (-1)])])
   .ret)
   .skip))))
  (.rg [o1 16 (.copy 5),
    o1 17 (.data (.bin .add) [.t 16, .c (.int .i64 (1))]),
    o1 5 (.copy 17)])))))))
 (.seq (.rg [o1 26 (.copy 1),
   o1 4 (.copy 26)])
 .ret)))))
def s_lszPacketS : Sig := ⟨[.rd false [.sl (.own none) [.d, .d, .d]], .rd false [.d]], (.one false [.d])⟩
noncomputable def E_lszPacketS : TEnv := envOf [(121, p_lszPacket)]
noncomputable def f_lszPacketS (n : Nat) : (List (Int × Int × ByteArray)) × Int → Option ((Int) × Unit) := runFn n E_lszPacketS c_lszPacketS [[.sl [.i .i64, .i .i64, .s]], [.i .i64]] [.i .i64] [] [4] .no
noncomputable def g_lszPacketS := f_lszPacketS BIG
noncomputable def p_lszPacketS : TSp := ⟨s_lszPacketS, [[.sl [.i .i64, .i .i64, .s]], [.i .i64]], [.i .i64], [], Ou.j .no, g_lszPacketS⟩
theorem k_lszPacketS : chkW PG E_lszPacketS 52 s_lszPacketS (c_lszPacketS.ht 27) .no = some (c_lszPacketS.wc E_lszPacketS, [4]) := by kernel_rfl
theorem ok_lszPacketS : p_lszPacketS.Ok PG 52 := mkOk (env_cons ok_lszPacket (env_nil PG)) k_lszPacketS (by kernel_rfl)
theorem e_lszPacketS (n : Nat) (a0 : List (Int × Int × ByteArray)) (a1 : Int) : f_lszPacketS n (a0, a1) =
  bif decide ((IntKind.wrap .i64 (a1 - (a0.length : Int))) < (0 : Int)) then
   some ((-1 : Int), ())
  else Option.bind (loopT n (X := Int × Int) (B := (Int) ⊕ (Int)) (fun self1 x0 =>
    bif decide (x0.2 < (a0.length : Int)) then
     bnd a0.length x0.2 fun n2 =>
     Option.bind a0[n2]? fun y3 =>
     Option.bind (g_lszPacket (y3, x0.1)) fun r4 =>
     bif decide (r4.1 < (0 : Int)) then
      some (Sum.inr (-1 : Int))
     else self1 (r4.1, IntKind.wrap .i64 (x0.2 + (1 : Int)))
    else some (Sum.inl x0.1)) (IntKind.wrap .i64 (a1 - (a0.length : Int)), (0 : Int)) : Option ((Int) ⊕ (Int))) fun y => match y with
  | .inl x5 =>
   some (x5, ())
  | .inr x5 =>
   some (x5, ()) := by kernel_rfl
def c_lszCallS : TC :=
 (.seq (.rg [o1 4 (.lit [.i .i64] [.int .i64 (0)])])
 (.seq (.rg [o1 5 (.copy 1),
   o1 6 (.copy 0),
   o1 7 (.len 6),
   o1 8 (.data (.bin .sub) [.t 5, .t 7]),
   o1 1 (.copy 8)])
 (.seq (.seq (.rg [o1 9 (.copy 1),
   o1 10 (.data (.bin .lss) [.t 9, .c (.int .i64 (0))])])
 (.cond (.t 10)
  (.seq (.rg [o1 4 (.lit [.i .i64] [.int .i64 (-1)])])
  .ret)
  .skip))
 (.seq (.rg [o1 11 (.copy 1),
   o1 4 (.copy 11)])
 .ret))))
def s_lszCallS : Sig := ⟨[.rd false [.sl (.own none) [.d, .d, .d, .d, .d, .d, .d]], .rd false [.d]], (.one false [.d])⟩
noncomputable def E_lszCallS : TEnv := envOf []
noncomputable def f_lszCallS (n : Nat) : (List (Int × Int × Int × Int × Int × Int × Int)) × Int → Option ((Int) × Unit) := runFn n E_lszCallS c_lszCallS [[.sl [.i .i64, .i .i64, .i .i64, .i .i64, .i .i64, .i .i64, .i .i64]], [.i .i64]] [.i .i64] [] [4] .no
noncomputable def g_lszCallS := f_lszCallS BIG
noncomputable def p_lszCallS : TSp := ⟨s_lszCallS, [[.sl [.i .i64, .i .i64, .i .i64, .i .i64, .i .i64, .i .i64, .i .i64]], [.i .i64]], [.i .i64], [], Ou.j .no, g_lszCallS⟩
theorem k_lszCallS : chkW PG E_lszCallS 53 s_lszCallS (c_lszCallS.ht 12) .no = some (c_lszCallS.wc E_lszCallS, [4]) := by kernel_rfl
theorem ok_lszCallS : p_lszCallS.Ok PG 53 := mkOk (env_nil PG) k_lszCallS (by kernel_rfl)
theorem e_lszCallS (n : Nat) (a0 : List (Int × Int × Int × Int × Int × Int × Int)) (a1 : Int) : f_lszCallS n (a0, a1) =
  bif decide ((IntKind.wrap .i64 (a1 - (a0.length : Int))) < (0 : Int)) then
   some ((-1 : Int), ())
  else some (IntKind.wrap .i64 (a1 - (a0.length : Int)), ()) := by kernel_rfl
def c_lszRec : TC :=
 (.seq (.rg [o1 2 (.a (.t 0)),
   o1 4 (.lit [.i .i64] [.int .i64 (0)])])
 (.seq (.rg [o1 5 (.idx .nil),
   o1 6 (.load 2 [] 6 (.t 5) 4 false),
   o1 7 (.copy 1),
   o3 8 81 [.t 6, .t 7],
   o1 1 (.copy 8)])
 (.seq (.seq (.rg [o1 9 (.copy 1),
   o1 10 (.data (.bin .lss) [.t 9, .c (.int .i64 (0))])])
 (.cond (.t 10)
  (.seq (.rg [o1 4 (.lit [.i .i64] [.int .i64 (-1)])])
  .ret)
  .skip))
 (.seq (.rg [o1 11 (.idx .nil),
   o1 12 (.load 2 [] 10 (.t 11) 4 false),
   o1 13 (.copy 1),
   o3 14 82 [.t 12, .t 13],
   o1 1 (.copy 14)])
 (.seq (.seq (.rg [o1 15 (.copy 1),
   o1 16 (.data (.bin .lss) [.t 15, .c (.int .i64 (0))])])
 (.cond (.t 16)
  (.seq (.rg [o1 4 (.lit [.i .i64] [.int .i64 (-1)])])
  .ret)
  .skip))
 (.seq (.rg [o1 17 (.copy 1),
   o1 4 (.copy 17)])
 .ret))))))
def s_lszRec : Sig := ⟨[.rd true [.d, .d, .d, .d, .d, .d, .d, .d, .sl (.own none) [.d, .d], .sl (.own none) [.d], .d, .d, .sl (.own none) [.d, .d], .d], .rd false [.d]], (.one false [.d])⟩
noncomputable def E_lszRec : TEnv := envOf [(81, p_lszAnswer), (82, p_lszOrder)]
noncomputable def f_lszRec (n : Nat) : (Int × Int × Int × Int × Int × Int × Int × Bool × List (Int × Int) × List (Int) × Int × Int × List (Int × Int) × Int) × Int → Option ((Int) × Unit) := runFn n E_lszRec c_lszRec [[.i .i64, .i .i64, .i .i64, .i .i64, .i .i64, .i .i64, .i .i64, .b, .sl [.i .i64, .i .i64], .sl [.i .i64], .i .i64, .i .i64, .sl [.i .i64, .i .i64], .i .i64], [.i .i64]] [.i .i64] [] [4] .no
noncomputable def g_lszRec := f_lszRec BIG
noncomputable def p_lszRec : TSp := ⟨s_lszRec, [[.i .i64, .i .i64, .i .i64, .i .i64, .i .i64, .i .i64, .i .i64, .b, .sl [.i .i64, .i .i64], .sl [.i .i64], .i .i64, .i .i64, .sl [.i .i64, .i .i64], .i .i64], [.i .i64]], [.i .i64], [], Ou.j .no, g_lszRec⟩
theorem k_lszRec : chkW PG E_lszRec 25 s_lszRec (c_lszRec.ht 18) .no = some (c_lszRec.wc E_lszRec, [4]) := by kernel_rfl
theorem ok_lszRec : p_lszRec.Ok PG 25 := mkOk (env_cons ok_lszAnswer (env_cons ok_lszOrder (env_nil PG))) k_lszRec (by kernel_rfl)
theorem e_lszRec (n : Nat) (a0 : Int × Int × Int × Int × Int × Int × Int × Bool × List (Int × Int) × List (Int) × Int × Int × List (Int × Int) × Int) (a1 : Int) : f_lszRec n (a0, a1) =
  Option.bind (g_lszAnswer ((a0.2.2.2.2.2.2.1, a0.2.2.2.2.2.2.2.1, a0.2.2.2.2.2.2.2.2.1, a0.2.2.2.2.2.2.2.2.2.1), a1)) fun r0 =>
  bif decide (r0.1 < (0 : Int)) then
   some ((-1 : Int), ())
  else Option.bind (g_lszOrder (a0.2.2.2.2.2.2.2.2.2.2, r0.1)) fun r1 =>
  bif decide (r1.1 < (0 : Int)) then
   some ((-1 : Int), ())
  else some (r1.1, ()) := by kernel_rfl
def c_lszRecS : TC :=
 (.seq (.rg [o1 4 (.lit [.i .i64] [.int .i64 (0)])])
 (.seq (.rg [o1 6 (.copy 1),
   o1 7 (.copy 0),
   o1 8 (.len 7),
   o1 9 (.data (.bin .sub) [.t 6, .t 8]),
   o1 1 (.copy 9)])
 (.seq (.seq (.rg [o1 10 (.copy 1),
   o1 11 (.data (.bin .lss) [.t 10, .c (.int .i64 (0))])])
 (.cond (.t 11)
  (.seq (.rg [o1 4 (.lit [.i .i64] [.int .i64 (-1)])])
  .ret)
  .skip))
 (.seq (.join [⟨1, [.i .i64], false⟩] 67104818 (some [⟨4, [.i .i64], false⟩]) (.seq (.rg [o1 5 (.lit [.i .i64] [.int .i64 (0)])])
 (.block 0 (.loop [⟨1, [.i .i64], false⟩, ⟨5, [.i .i64], false⟩] 67104818
  (.seq (.seq (.rg [o1 12 (.copy 5),
    o1 13 (.copy 0),
    o1 14 (.len 13),
    o1 15 (.data (.bin .lss) [.t 12, .t 14])])
  (.cond (.t 15)
   .skip
   (.exit 0)))
  (.seq (.block 1 (.seq (.rg [o1 18 (.copy 0),
    o1 19 (.copy 5),
    o1 20 (.index 18 (.t 19)),
    o1 21 (.load 18 [(0, 14)] 0 (.t 20) 14 false),
    o1 22 (.copy 1),
    o3 23 25 [.t 21, .t 22],
    o1 1 (.copy 23)])
  (.seq (.rg [o1 24 (.copy 1),
    o1 25 (.data (.bin .lss) [.t 24, .c (.int .i64 (0))])])
  (.cond (.t 25)
   (.seq (.rg [o1 4 (.lit [.i .i64] [.int .i64 (-1)])])
   .ret)
   .skip))))
  (.rg [o1 16 (.copy 5),
    o1 17 (.data (.bin .add) [.t 16, .c (.int .i64 (1))]),
    o1 5 (.copy 17)])))))))
 (.seq (.rg [o1 26 (.copy 1),
   o1 4 (.copy 26)])
 .ret)))))
def s_lszRecS : Sig := ⟨[.rd false [.sl (.own none) [.d, .d, .d, .d, .d, .d, .d, .d, .sl (.own none) [.d, .d], .sl (.own none) [.d], .d, .d, .sl (.own none) [.d, .d], .d]], .rd false [.d]], (.one false [.d])⟩
noncomputable def E_lszRecS : TEnv := envOf [(25, p_lszRec)]
noncomputable def f_lszRecS (n : Nat) : (List (Int × Int × Int × Int × Int × Int × Int × Bool × List (Int × Int) × List (Int) × Int × Int × List (Int × Int) × Int)) × Int → Option ((Int) × Unit) := runFn n E_lszRecS c_lszRecS [[.sl [.i .i64, .i .i64, .i .i64, .i .i64, .i .i64, .i .i64, .i .i64, .b, .sl [.i .i64, .i .i64], .sl [.i .i64], .i .i64, .i .i64, .sl [.i .i64, .i .i64], .i .i64]], [.i .i64]] [.i .i64] [] [4] .no
noncomputable def g_lszRecS := f_lszRecS BIG
noncomputable def p_lszRecS : TSp := ⟨s_lszRecS, [[.sl [.i .i64, .i .i64, .i .i64, .i .i64, .i .i64, .i .i64, .i .i64, .b, .sl [.i .i64, .i .i64], .sl [.i .i64], .i .i64, .i .i64, .sl [.i .i64, .i .i64], .i .i64]], [.i .i64]], [.i .i64], [], Ou.j .no, g_lszRecS⟩
theorem k_lszRecS : chkW PG E_lszRecS 6 s_lszRecS (c_lszRecS.ht 27) .no = some (c_lszRecS.wc E_lszRecS, [4]) := by kernel_rfl
theorem ok_lszRecS : p_lszRecS.Ok PG 6 := mkOk (env_cons ok_lszRec (env_nil PG)) k_lszRecS (by kernel_rfl)
theorem e_lszRecS (n : Nat) (a0 : List (Int × Int × Int × Int × Int × Int × Int × Bool × (List (Int × Int)) × (List (Int)) × Int × Int × (List (Int × Int)) × Int)) (a1 : Int) : f_lszRecS n (a0, a1) =
  bif decide ((IntKind.wrap .i64 (a1 - (a0.length : Int))) < (0 : Int)) then
   some ((-1 : Int), ())
  else Option.bind (loopT n (X := Int × Int) (B := (Int) ⊕ (Int)) (fun self1 x0 =>
    bif decide (x0.2 < (a0.length : Int)) then
     bnd a0.length x0.2 fun n2 =>
     Option.bind a0[n2]? fun y3 =>
     Option.bind (g_lszRec (y3, x0.1)) fun r4 =>
     bif decide (r4.1 < (0 : Int)) then
      some (Sum.inr (-1 : Int))
     else self1 (r4.1, IntKind.wrap .i64 (x0.2 + (1 : Int)))
    else some (Sum.inl x0.1)) (IntKind.wrap .i64 (a1 - (a0.length : Int)), (0 : Int)) : Option ((Int) ⊕ (Int))) fun y => match y with
  | .inl x5 =>
   some (x5, ())
  | .inr x5 =>
   some (x5, ()) := by kernel_rfl
def c_lszWorld : TC :=
 (.seq (.rg [o1 2 (.a (.t 0)),
   o1 4 (.lit [.i .i64] [.int .i64 (0)])])
 (.seq (.rg [o1 5 (.idx .nil),
   o1 6 (.load 2 [] 1 (.t 5) 15 false),
   o1 7 (.copy 1),
   o3 8 48 [.t 6, .t 7],
   o1 1 (.copy 8)])
 (.seq (.seq (.rg [o1 9 (.copy 1),
   o1 10 (.data (.bin .lss) [.t 9, .c (.int .i64 (0))])])
 (.cond (.t 10)
  (.seq (.rg [o1 4 (.lit [.i .i64] [.int .i64 (-1)])])
  .ret)
  .skip))
 (.seq (.rg [o1 11 (.idx .nil),
   o1 12 (.load 2 [] 16 (.t 11) 1 false),
   o1 13 (.copy 1),
   o3 14 49 [.t 12, .t 13],
   o1 1 (.copy 14)])
 (.seq (.seq (.rg [o1 15 (.copy 1),
   o1 16 (.data (.bin .lss) [.t 15, .c (.int .i64 (0))])])
 (.cond (.t 16)
  (.seq (.rg [o1 4 (.lit [.i .i64] [.int .i64 (-1)])])
  .ret)
  .skip))
 (.seq (.rg [o1 17 (.idx .nil),
   o1 18 (.load 2 [] 17 (.t 17) 1 false),
   o1 19 (.copy 1),
   o3 20 50 [.t 18, .t 19],
   o1 1 (.copy 20)])
 (.seq (.seq (.rg [o1 21 (.copy 1),
   o1 22 (.data (.bin .lss) [.t 21, .c (.int .i64 (0))])])
 (.cond (.t 22)
  (.seq (.rg [o1 4 (.lit [.i .i64] [.int .i64 (-1)])])
  .ret)
  .skip))
 (.seq (.rg [o1 23 (.idx .nil),
   o1 24 (.load 2 [] 18 (.t 23) 1 false),
   o1 25 (.copy 1),
   o3 26 51 [.t 24, .t 25],
   o1 1 (.copy 26)])
 (.seq (.seq (.rg [o1 27 (.copy 1),
   o1 28 (.data (.bin .lss) [.t 27, .c (.int .i64 (0))])])
 (.cond (.t 28)
  (.seq (.rg [o1 4 (.lit [.i .i64] [.int .i64 (-1)])])
  .ret)
  .skip))
 (.seq (.rg [o1 29 (.idx .nil),
   o1 30 (.load 2 [] 19 (.t 29) 1 false),
   o1 31 (.copy 1),
   o3 32 52 [.t 30, .t 31],
   o1 1 (.copy 32)])
 (.seq (.seq (.rg [o1 33 (.copy 1),
   o1 34 (.data (.bin .lss) [.t 33, .c (.int .i64 (0))])])
 (.cond (.t 34)
  (.seq (.rg [o1 4 (.lit [.i .i64] [.int .i64 (-1)])])
  .ret)
  .skip))
 (.seq (.rg [o1 35 (.idx .nil),
   o1 36 (.load 2 [] 20 (.t 35) 1 false),
   o1 37 (.copy 1),
   o3 38 53 [.t 36, .t 37],
   o1 1 (.copy 38)])
 (.seq (.seq (.rg [o1 39 (.copy 1),
   o1 40 (.data (.bin .lss) [.t 39, .c (.int .i64 (0))])])
 (.cond (.t 40)
  (.seq (.rg [o1 4 (.lit [.i .i64] [.int .i64 (-1)])])
  .ret)
  .skip))
 (.seq (.rg [o1 41 (.idx .nil),
   o1 42 (.load 2 [] 21 (.t 41) 1 false),
   o1 43 (.copy 1),
   o3 44 6 [.t 42, .t 43],
   o1 1 (.copy 44)])
 (.seq (.seq (.rg [o1 45 (.copy 1),
   o1 46 (.data (.bin .lss) [.t 45, .c (.int .i64 (0))])])
 (.cond (.t 46)
  (.seq (.rg [o1 4 (.lit [.i .i64] [.int .i64 (-1)])])
  .ret)
  .skip))
 (.seq (.rg [o1 47 (.copy 1),
   o1 4 (.copy 47)])
 .ret))))))))))))))))
def s_lszWorld : Sig := ⟨[.rd true [.d, .d, .sl (.own none) [.d], .sl (.own none) [.d, .d], .sl (.own none) [.sl (.own none) [.d]], .sl (.own none) [.d], .d, .d, .d, .d, .d, .d, .d, .sl (.own none) [.d, .d], .d, .sl (.own none) [.d, .d, .d, .d, .d, .d], .sl (.own none) [.d, .d, .sl (.own none) [.d, .d, .d, .d], .d, .d, .sl (.own none) [.d, .d], .sl (.own none) [.d]], .sl (.own none) [.sl (.own none) [.d, .d, .d]], .sl (.own none) [.d], .sl (.own none) [.d, .d, .d], .sl (.own none) [.d, .d, .d, .d, .d, .d, .d], .sl (.own none) [.d, .d, .d, .d, .d, .d, .d, .d, .sl (.own none) [.d, .d], .sl (.own none) [.d], .d, .d, .sl (.own none) [.d, .d], .d]], .rd false [.d]], (.one false [.d])⟩
noncomputable def E_lszWorld : TEnv := envOf [(48, p_lszHead), (49, p_lszShardS), (50, p_lszDiskS), (51, p_lszBoolS), (52, p_lszPacketS), (53, p_lszCallS), (6, p_lszRecS)]
noncomputable def f_lszWorld (n : Nat) : (Int × Int × List (Int) × List (Int × Int) × List (List (Int)) × List (Int) × Int × Int × Int × Int × Int × Int × Int × List (Int × Int) × Int × List (Int × Int × Int × Int × Int × Int) × List (Int × Int × List (Int × Int × Int × Bool) × Int × Bool × List (Int × Int) × List (Int)) × List (List (ByteArray × ByteArray × Int)) × List (Bool) × List (Int × Int × ByteArray) × List (Int × Int × Int × Int × Int × Int × Int) × List (Int × Int × Int × Int × Int × Int × Int × Bool × List (Int × Int) × List (Int) × Int × Int × List (Int × Int) × Int)) × Int → Option ((Int) × Unit) := runFn n E_lszWorld c_lszWorld [[.i .i64, .i .i64, .sl [.i .i64], .sl [.i .i64, .i .i64], .sl [.sl [.i .i64]], .sl [.i .i64], .i .i64, .i .i64, .i .i64, .i .i64, .i .i64, .i .i64, .i .i64, .sl [.i .i64, .i .i64], .i .i64, .sl [.i .i64, .i .i64, .i .i64, .i .i64, .i .i64, .i .i64], .sl [.i .i64, .i .i64, .sl [.i .i64, .i .i64, .i .i64, .b], .i .i64, .b, .sl [.i .i64, .i .i64], .sl [.i .i64]], .sl [.sl [.s, .s, .i .i64]], .sl [.b], .sl [.i .i64, .i .i64, .s], .sl [.i .i64, .i .i64, .i .i64, .i .i64, .i .i64, .i .i64, .i .i64], .sl [.i .i64, .i .i64, .i .i64, .i .i64, .i .i64, .i .i64, .i .i64, .b, .sl [.i .i64, .i .i64], .sl [.i .i64], .i .i64, .i .i64, .sl [.i .i64, .i .i64], .i .i64]], [.i .i64]] [.i .i64] [] [4] .no
noncomputable def g_lszWorld := f_lszWorld BIG
noncomputable def p_lszWorld : TSp := ⟨s_lszWorld, [[.i .i64, .i .i64, .sl [.i .i64], .sl [.i .i64, .i .i64], .sl [.sl [.i .i64]], .sl [.i .i64], .i .i64, .i .i64, .i .i64, .i .i64, .i .i64, .i .i64, .i .i64, .sl [.i .i64, .i .i64], .i .i64, .sl [.i .i64, .i .i64, .i .i64, .i .i64, .i .i64, .i .i64], .sl [.i .i64, .i .i64, .sl [.i .i64, .i .i64, .i .i64, .b], .i .i64, .b, .sl [.i .i64, .i .i64], .sl [.i .i64]], .sl [.sl [.s, .s, .i .i64]], .sl [.b], .sl [.i .i64, .i .i64, .s], .sl [.i .i64, .i .i64, .i .i64, .i .i64, .i .i64, .i .i64, .i .i64], .sl [.i .i64, .i .i64, .i .i64, .i .i64, .i .i64, .i .i64, .i .i64, .b, .sl [.i .i64, .i .i64], .sl [.i .i64], .i .i64, .i .i64, .sl [.i .i64, .i .i64], .i .i64]], [.i .i64]], [.i .i64], [], Ou.j .no, g_lszWorld⟩
theorem k_lszWorld : chkW PG E_lszWorld 20 s_lszWorld (c_lszWorld.ht 48) .no = some (c_lszWorld.wc E_lszWorld, [4]) := by kernel_rfl
theorem ok_lszWorld : p_lszWorld.Ok PG 20 := mkOk (env_cons ok_lszHead (env_cons ok_lszShardS (env_cons ok_lszDiskS (env_cons ok_lszBoolS (env_cons ok_lszPacketS (env_cons ok_lszCallS (env_cons ok_lszRecS (env_nil PG)))))))) k_lszWorld (by kernel_rfl)
theorem e_lszWorld (n : Nat) (a0 : Int × Int × List (Int) × List (Int × Int) × List ((List (Int))) × List (Int) × Int × Int × Int × Int × Int × Int × Int × List (Int × Int) × Int × List (Int × Int × Int × Int × Int × Int) × List (Int × Int × (List (Int × Int × Int × Bool)) × Int × Bool × (List (Int × Int)) × (List (Int))) × List ((List (ByteArray × ByteArray × Int))) × List (Bool) × List (Int × Int × ByteArray) × List (Int × Int × Int × Int × Int × Int × Int) × List (Int × Int × Int × Int × Int × Int × Int × Bool × (List (Int × Int)) × (List (Int)) × Int × Int × (List (Int × Int)) × Int)) (a1 : Int) : f_lszWorld n (a0, a1) =
  Option.bind (g_lszHead ((a0.2.1, a0.2.2.1, a0.2.2.2.1, a0.2.2.2.2.1, a0.2.2.2.2.2.1, a0.2.2.2.2.2.2.1, a0.2.2.2.2.2.2.2.1, a0.2.2.2.2.2.2.2.2.1, a0.2.2.2.2.2.2.2.2.2.1, a0.2.2.2.2.2.2.2.2.2.2.1, a0.2.2.2.2.2.2.2.2.2.2.2.1, a0.2.2.2.2.2.2.2.2.2.2.2.2.1, a0.2.2.2.2.2.2.2.2.2.2.2.2.2.1, a0.2.2.2.2.2.2.2.2.2.2.2.2.2.2.1, a0.2.2.2.2.2.2.2.2.2.2.2.2.2.2.2.1), a1)) fun r0 =>
  bif decide (r0.1 < (0 : Int)) then
   some ((-1 : Int), ())
  else Option.bind (g_lszShardS (a0.2.2.2.2.2.2.2.2.2.2.2.2.2.2.2.2.1, r0.1)) fun r1 =>
  bif decide (r1.1 < (0 : Int)) then
   some ((-1 : Int), ())
  else Option.bind (g_lszDiskS (a0.2.2.2.2.2.2.2.2.2.2.2.2.2.2.2.2.2.1, r1.1)) fun r2 =>
  bif decide (r2.1 < (0 : Int)) then
   some ((-1 : Int), ())
  else Option.bind (g_lszBoolS (a0.2.2.2.2.2.2.2.2.2.2.2.2.2.2.2.2.2.2.1, r2.1)) fun r3 =>
  bif decide (r3.1 < (0 : Int)) then
   some ((-1 : Int), ())
  else Option.bind (g_lszPacketS (a0.2.2.2.2.2.2.2.2.2.2.2.2.2.2.2.2.2.2.2.1, r3.1)) fun r4 =>
  bif decide (r4.1 < (0 : Int)) then
   some ((-1 : Int), ())
  else Option.bind (g_lszCallS (a0.2.2.2.2.2.2.2.2.2.2.2.2.2.2.2.2.2.2.2.2.1, r4.1)) fun r5 =>
  bif decide (r5.1 < (0 : Int)) then
   some ((-1 : Int), ())
  else Option.bind (g_lszRecS (a0.2.2.2.2.2.2.2.2.2.2.2.2.2.2.2.2.2.2.2.2.2, r5.1)) fun r6 =>
  bif decide (r6.1 < (0 : Int)) then
   some ((-1 : Int), ())
  else some (r6.1, ()) := by kernel_rfl
def c_ltoIntS : TC :=
 (.seq (.rg [o1 2 (.lit [.sl [.i .i64]] [.slice none 0 0])])
 (.seq (.rg [o1 5 (.copy 0),
   o1 6 (.len 5),
   o1 7 (.make (.t 6) [.i .i64]),
   ⟨false, [], [], .det 2 (.copy 7), [3, 7], (some 3), none⟩])
 (.seq (.join [⟨3, [.sl [.i .i64]], false⟩] 2096920 none (.seq (.rg [o1 4 (.lit [.i .i64] [.int .i64 (0)])])
 (.block 0 (.loop [⟨3, [.sl [.i .i64]], false⟩, ⟨4, [.i .i64], false⟩] 2096920
  (.seq (.seq (.rg [o1 8 (.copy 4),
    o1 9 (.copy 0),
    o1 10 (.len 9),
    o1 11 (.data (.bin .lss) [.t 8, .t 10])])
  (.cond (.t 11)
   .skip
   (.exit 0)))
  (.seq (.block 1 (.rg [⟨true, [], [], .det 1 (.copy 3), [14], (some 14), none⟩,
    o1 15 (.copy 4),
    o1 16 (.copy 0),
    o1 17 (.copy 4),
    o1 18 (.index 16 (.t 17)),
    o1 19 (.load 16 [(0, 1)] 0 (.t 18) 1 false),
    o1 20 (.index 14 (.t 15)),
    o4 1 [3, 14] (.store 3 [(0, 1)] 0 (.t 20) (.t 19))]))
  (.rg [o1 12 (.copy 4),
    o1 13 (.data (.bin .add) [.t 12, .c (.int .i64 (1))]),
    o1 4 (.copy 13)])))))))
 (.seq (.rg [⟨false, [], [], .det 2 (.copy 3), [21, 3], (some 21), none⟩,
   ⟨false, [], [], .det 2 (.copy 21), [2, 21], (some 2), none⟩])
 .ret))))
def s_ltoIntS : Sig := ⟨[.rd false [.sl (.own none) [.d]]], (.one false [.sl (.own none) [.d]])⟩
noncomputable def E_ltoIntS : TEnv := envOf []
noncomputable def f_ltoIntS (n : Nat) : List (Int) → Option ((List (Int)) × Unit) := runFn n E_ltoIntS c_ltoIntS [[.sl [.i .i64]]] [.sl [.i .i64]] [] [2] .no
noncomputable def g_ltoIntS := f_ltoIntS BIG
noncomputable def p_ltoIntS : TSp := ⟨s_ltoIntS, [[.sl [.i .i64]]], [.sl [.i .i64]], [], Ou.j .no, g_ltoIntS⟩
theorem k_ltoIntS : chkW PG E_ltoIntS 128 s_ltoIntS (c_ltoIntS.ht 22) .no = some (c_ltoIntS.wc E_ltoIntS, [2]) := by kernel_rfl
theorem ok_ltoIntS : p_ltoIntS.Ok PG 128 := mkOk (env_nil PG) k_ltoIntS (by kernel_rfl)
theorem e_ltoIntS (n : Nat) (a0 : List (Int)) : f_ltoIntS n a0 =
  bif decide (0 ≤ (a0.length : Int)) then
   bif decide ((Int.toNat (a0.length : Int)) ≤ 4294967296) then
    Option.bind (loopT n (X := (List (Int)) × Int) (B := (List (Int))) (fun self1 x0 =>
      bif decide (x0.2 < (a0.length : Int)) then
       bnd a0.length x0.2 fun n2 =>
       Option.bind a0[n2]? fun y3 =>
       bnd x0.1.length x0.2 fun n4 =>
       Option.bind x0.1[n4]? fun y5 =>
       self1 (x0.1.set n4 y3, IntKind.wrap .i64 (x0.2 + (1 : Int)))
      else some x0.1) (List.replicate (Int.toNat (a0.length : Int)) (0 : Int), (0 : Int)) : Option ((List (Int)))) fun x6 =>
    some (x6, ())
   else none
  else none := by kernel_rfl
def c_ltoEdge : TC :=
 (.seq (.rg [o1 1 (.a (.t 0)),
   ⟨false, [], [], .det 2 (.a (.c [.i .i64, .i .i64] [.int .i64 (0), .int .i64 (0)])), [2, 1000000001], (some 2), none⟩])
 (.seq (.rg [⟨false, [], [], .det 2 (.a (.c [.i .i64, .i .i64] [.int .i64 (0), .int .i64 (0)])), [3, 1000000001], (some 3), none⟩])
 (.seq (.rg [o1 4 (.idx .nil),
   o1 5 (.load 1 [] 0 (.t 4) 1 false),
   o1 6 (.idx .nil),
   o4 1 [3] (.store 3 [] 0 (.t 6) (.t 5))])
 (.seq (.rg [o1 7 (.idx .nil),
   o1 8 (.load 1 [] 1 (.t 7) 1 false),
   o1 9 (.idx .nil),
   o4 1 [3] (.store 3 [] 1 (.t 9) (.t 8))])
 (.seq (.rg [o1 10 (.load 3 [] 0 .nil 2 false),
   o4 1 [2] (.store 2 [] 0 .nil (.t 10))])
 .ret)))))
def s_ltoEdge : Sig := ⟨[.rd true [.d, .d]], (.one true [.d, .d])⟩
noncomputable def E_ltoEdge : TEnv := envOf []
noncomputable def f_ltoEdge (n : Nat) : (Int × Int) → Option ((Int × Int) × Unit) := runFn n E_ltoEdge c_ltoEdge [[.i .i64, .i .i64]] [.i .i64, .i .i64] [] [2] .no
noncomputable def g_ltoEdge := f_ltoEdge BIG
noncomputable def p_ltoEdge : TSp := ⟨s_ltoEdge, [[.i .i64, .i .i64]], [.i .i64, .i .i64], [], Ou.j .no, g_ltoEdge⟩
theorem k_ltoEdge : chkW PG E_ltoEdge 172 s_ltoEdge (c_ltoEdge.ht 11) .no = some (c_ltoEdge.wc E_ltoEdge, [2]) := by kernel_rfl
theorem ok_ltoEdge : p_ltoEdge.Ok PG 172 := mkOk (env_nil PG) k_ltoEdge (by kernel_rfl)
theorem e_ltoEdge (n : Nat) (a0 : Int × Int) : f_ltoEdge n a0 =
  some (a0, ()) := by kernel_rfl
def c_ltoEdgeS : TC :=
 (.seq (.rg [o1 2 (.lit [.sl [.i .i64, .i .i64]] [.slice none 0 0])])
 (.seq (.rg [o1 5 (.copy 0),
   o1 6 (.len 5),
   o1 7 (.make (.t 6) [.i .i64, .i .i64]),
   ⟨false, [], [], .det 2 (.copy 7), [3, 7], (some 3), none⟩])
 (.seq (.join [⟨3, [.sl [.i .i64, .i .i64]], false⟩] 4194072 none (.seq (.rg [o1 4 (.lit [.i .i64] [.int .i64 (0)])])
 (.block 0 (.loop [⟨3, [.sl [.i .i64, .i .i64]], false⟩, ⟨4, [.i .i64], false⟩] 4194072
  (.seq (.seq (.rg [o1 8 (.copy 4),
    o1 9 (.copy 0),
    o1 10 (.len 9),
    o1 11 (.data (.bin .lss) [.t 8, .t 10])])
  (.cond (.t 11)
   .skip
   (.exit 0)))
  (.seq (.block 1 (.rg [⟨true, [], [], .det 1 (.copy 3), [14], (some 14), none⟩,
    o1 15 (.copy 4),
    o1 16 (.copy 0),
    o1 17 (.copy 4),
    o1 18 (.index 16 (.t 17)),
    o1 19 (.load 16 [(0, 2)] 0 (.t 18) 2 false),
    o3 20 172 [.t 19],
    o1 21 (.index 14 (.t 15)),
    o4 1 [3, 14] (.store 3 [(0, 2)] 0 (.t 21) (.t 20))]))
  (.rg [o1 12 (.copy 4),
    o1 13 (.data (.bin .add) [.t 12, .c (.int .i64 (1))]),
    o1 4 (.copy 13)])))))))
 (.seq (.rg [⟨false, [], [], .det 2 (.copy 3), [22, 3], (some 22), none⟩,
   ⟨false, [], [], .det 2 (.copy 22), [2, 22], (some 2), none⟩])
 .ret))))
def s_ltoEdgeS : Sig := ⟨[.rd false [.sl (.own none) [.d, .d]]], (.one false [.sl (.own none) [.d, .d]])⟩
noncomputable def E_ltoEdgeS : TEnv := envOf [(172, p_ltoEdge)]
noncomputable def f_ltoEdgeS (n : Nat) : (List (Int × Int)) → Option ((List (Int × Int)) × Unit) := runFn n E_ltoEdgeS c_ltoEdgeS [[.sl [.i .i64, .i .i64]]] [.sl [.i .i64, .i .i64]] [] [2] .no
noncomputable def g_ltoEdgeS := f_ltoEdgeS BIG
noncomputable def p_ltoEdgeS : TSp := ⟨s_ltoEdgeS, [[.sl [.i .i64, .i .i64]]], [.sl [.i .i64, .i .i64]], [], Ou.j .no, g_ltoEdgeS⟩
theorem k_ltoEdgeS : chkW PG E_ltoEdgeS 129 s_ltoEdgeS (c_ltoEdgeS.ht 23) .no = some (c_ltoEdgeS.wc E_ltoEdgeS, [2]) := by kernel_rfl
theorem ok_ltoEdgeS : p_ltoEdgeS.Ok PG 129 := mkOk (env_cons ok_ltoEdge (env_nil PG)) k_ltoEdgeS (by kernel_rfl)
theorem e_ltoEdgeS (n : Nat) (a0 : List (Int × Int)) : f_ltoEdgeS n a0 =
  bif decide (0 ≤ (a0.length : Int)) then
   bif decide ((Int.toNat (a0.length : Int)) ≤ 4294967296) then
    Option.bind (loopT n (X := (List (Int × Int)) × Int) (B := (List (Int × Int))) (fun self1 x0 =>
      bif decide (x0.2 < (a0.length : Int)) then
       bnd a0.length x0.2 fun n2 =>
       Option.bind a0[n2]? fun y3 =>
       Option.bind (g_ltoEdge y3) fun r4 =>
       bnd x0.1.length x0.2 fun n5 =>
       Option.bind x0.1[n5]? fun y6 =>
       self1 (x0.1.set n5 r4.1, IntKind.wrap .i64 (x0.2 + (1 : Int)))
      else some x0.1) (List.replicate (Int.toNat (a0.length : Int)) ((0 : Int), (0 : Int)), (0 : Int)) : Option ((List (Int × Int)))) fun x7 =>
    some (x7, ())
   else none
  else none := by kernel_rfl
def c_ltoIntSS : TC :=
 (.seq (.rg [o1 2 (.lit [.sl [.sl [.i .i64]]] [.slice none 0 0])])
 (.seq (.rg [o1 5 (.copy 0),
   o1 6 (.len 5),
   o1 7 (.make (.t 6) [.sl [.i .i64]]),
   ⟨false, [], [], .det 2 (.copy 7), [3, 7], (some 3), none⟩])
 (.seq (.join [⟨3, [.sl [.sl [.i .i64]]], false⟩] 4194072 none (.seq (.rg [o1 4 (.lit [.i .i64] [.int .i64 (0)])])
 (.block 0 (.loop [⟨3, [.sl [.sl [.i .i64]]], false⟩, ⟨4, [.i .i64], false⟩] 4194072
  (.seq (.seq (.rg [o1 8 (.copy 4),
    o1 9 (.copy 0),
    o1 10 (.len 9),
    o1 11 (.data (.bin .lss) [.t 8, .t 10])])
  (.cond (.t 11)
   .skip
   (.exit 0)))
  (.seq (.block 1 (.rg [⟨true, [], [], .det 1 (.copy 3), [14], (some 14), none⟩,
    o1 15 (.copy 4),
    o1 16 (.copy 0),
    o1 17 (.copy 4),
    o1 18 (.index 16 (.t 17)),
    o1 19 (.load 16 [(0, 1)] 0 (.t 18) 1 false),
    o3 20 128 [.t 19],
    o1 21 (.index 14 (.t 15)),
    o4 2 [3, 20, 21, 14] (.store 3 [(0, 1)] 0 (.t 21) (.t 20))]))
  (.rg [o1 12 (.copy 4),
    o1 13 (.data (.bin .add) [.t 12, .c (.int .i64 (1))]),
    o1 4 (.copy 13)])))))))
 (.seq (.rg [⟨false, [], [], .det 2 (.copy 3), [22, 3], (some 22), none⟩,
   ⟨false, [], [], .det 2 (.copy 22), [2, 22], (some 2), none⟩])
 .ret))))
def s_ltoIntSS : Sig := ⟨[.rd false [.sl (.own none) [.sl (.own none) [.d]]]], (.one false [.sl (.own none) [.sl (.own none) [.d]]])⟩
noncomputable def E_ltoIntSS : TEnv := envOf [(128, p_ltoIntS)]
noncomputable def f_ltoIntSS (n : Nat) : List (List (Int)) → Option ((List (List (Int))) × Unit) := runFn n E_ltoIntSS c_ltoIntSS [[.sl [.sl [.i .i64]]]] [.sl [.sl [.i .i64]]] [] [2] .no
noncomputable def g_ltoIntSS := f_ltoIntSS BIG
noncomputable def p_ltoIntSS : TSp := ⟨s_ltoIntSS, [[.sl [.sl [.i .i64]]]], [.sl [.sl [.i .i64]]], [], Ou.j .no, g_ltoIntSS⟩
theorem k_ltoIntSS : chkW PG E_ltoIntSS 130 s_ltoIntSS (c_ltoIntSS.ht 23) .no = some (c_ltoIntSS.wc E_ltoIntSS, [2]) := by kernel_rfl
theorem ok_ltoIntSS : p_ltoIntSS.Ok PG 130 := mkOk (env_cons ok_ltoIntS (env_nil PG)) k_ltoIntSS (by kernel_rfl)
theorem e_ltoIntSS (n : Nat) (a0 : List ((List (Int)))) : f_ltoIntSS n a0 =
  bif decide (0 ≤ (a0.length : Int)) then
   bif decide ((Int.toNat (a0.length : Int)) ≤ 4294967296) then
    Option.bind (loopT n (X := (List ((List (Int)))) × Int) (B := (List ((List (Int))))) (fun self1 x0 =>
      bif decide (x0.2 < (a0.length : Int)) then
       bnd a0.length x0.2 fun n2 =>
       Option.bind a0[n2]? fun y3 =>
       Option.bind (g_ltoIntS y3) fun r4 =>
       bnd x0.1.length x0.2 fun n5 =>
       Option.bind x0.1[n5]? fun y6 =>
       self1 (x0.1.set n5 r4.1, IntKind.wrap .i64 (x0.2 + (1 : Int)))
      else some x0.1) (List.replicate (Int.toNat (a0.length : Int)) [], (0 : Int)) : Option ((List ((List (Int)))))) fun x7 =>
    some (x7, ())
   else none
  else none := by kernel_rfl
def c_ltoAsk : TC :=
 (.seq (.rg [o1 1 (.a (.t 0)),
   ⟨false, [], [], .det 2 (.a (.c [.i .i64, .i .i64, .i .i64, .i .i64] [.int .i64 (0), .int .i64 (0), .int .i64 (0), .int .i64 (0)])), [2, 1000000001], (some 2), none⟩])
 (.seq (.rg [⟨false, [], [], .det 2 (.a (.c [.i .i64, .i .i64, .i .i64, .i .i64] [.int .i64 (0), .int .i64 (0), .int .i64 (0), .int .i64 (0)])), [3, 1000000001], (some 3), none⟩])
 (.seq (.rg [o1 4 (.idx .nil),
   o1 5 (.load 1 [] 0 (.t 4) 1 false),
   o1 6 (.idx .nil),
   o4 1 [3] (.store 3 [] 0 (.t 6) (.t 5))])
 (.seq (.rg [o1 7 (.idx .nil),
   o1 8 (.load 1 [] 1 (.t 7) 1 false),
   o1 9 (.idx .nil),
   o4 1 [3] (.store 3 [] 1 (.t 9) (.t 8))])
 (.seq (.rg [o1 10 (.idx .nil),
   o1 11 (.load 1 [] 2 (.t 10) 1 false),
   o1 12 (.idx .nil),
   o4 1 [3] (.store 3 [] 2 (.t 12) (.t 11))])
 (.seq (.rg [o1 13 (.idx .nil),
   o1 14 (.load 1 [] 3 (.t 13) 1 false),
   o1 15 (.idx .nil),
   o4 1 [3] (.store 3 [] 3 (.t 15) (.t 14))])
 (.seq (.rg [o1 16 (.load 3 [] 0 .nil 4 false),
   o4 1 [2] (.store 2 [] 0 .nil (.t 16))])
 .ret)))))))
def s_ltoAsk : Sig := ⟨[.rd true [.d, .d, .d, .d]], (.one true [.d, .d, .d, .d])⟩
noncomputable def E_ltoAsk : TEnv := envOf []
noncomputable def f_ltoAsk (n : Nat) : (Int × Int × Int × Int) → Option ((Int × Int × Int × Int) × Unit) := runFn n E_ltoAsk c_ltoAsk [[.i .i64, .i .i64, .i .i64, .i .i64]] [.i .i64, .i .i64, .i .i64, .i .i64] [] [2] .no
noncomputable def g_ltoAsk := f_ltoAsk BIG
noncomputable def p_ltoAsk : TSp := ⟨s_ltoAsk, [[.i .i64, .i .i64, .i .i64, .i .i64]], [.i .i64, .i .i64, .i .i64, .i .i64], [], Ou.j .no, g_ltoAsk⟩
theorem k_ltoAsk : chkW PG E_ltoAsk 83 s_ltoAsk (c_ltoAsk.ht 17) .no = some (c_ltoAsk.wc E_ltoAsk, [2]) := by kernel_rfl
theorem ok_ltoAsk : p_ltoAsk.Ok PG 83 := mkOk (env_nil PG) k_ltoAsk (by kernel_rfl)
theorem e_ltoAsk (n : Nat) (a0 : Int × Int × Int × Int) : f_ltoAsk n a0 =
  some (a0, ()) := by kernel_rfl
def c_ltoOrder : TC :=
 (.seq (.rg [o1 1 (.a (.t 0)),
   ⟨false, [], [], .det 2 (.a (.c [.i .i64, .i .i64, .sl [.i .i64, .i .i64], .i .i64] [.int .i64 (0), .int .i64 (0), .slice none 0 0, .int .i64 (0)])), [2, 1000000001], (some 2), none⟩])
 (.seq (.rg [⟨false, [], [], .det 2 (.a (.c [.i .i64, .i .i64, .sl [.i .i64, .i .i64], .i .i64] [.int .i64 (0), .int .i64 (0), .slice none 0 0, .int .i64 (0)])), [3, 1000000001], (some 3), none⟩])
 (.seq (.rg [o1 4 (.idx .nil),
   o1 5 (.load 1 [] 0 (.t 4) 1 false),
   o1 6 (.idx .nil),
   o4 1 [3] (.store 3 [] 0 (.t 6) (.t 5))])
 (.seq (.rg [o1 7 (.idx .nil),
   o1 8 (.load 1 [] 1 (.t 7) 1 false),
   o1 9 (.idx .nil),
   o4 1 [3] (.store 3 [] 1 (.t 9) (.t 8))])
 (.seq (.rg [o1 10 (.idx .nil),
   o1 11 (.load 1 [] 2 (.t 10) 1 false),
   o3 12 129 [.t 11],
   o1 13 (.idx .nil),
   o4 2 [3, 12] (.store 3 [] 2 (.t 13) (.t 12))])
 (.seq (.rg [o1 14 (.idx .nil),
   o1 15 (.load 1 [] 3 (.t 14) 1 false),
   o1 16 (.idx .nil),
   o4 1 [3] (.store 3 [] 3 (.t 16) (.t 15))])
 (.seq (.rg [o1 17 (.load 3 [] 0 .nil 4 true),
   ⟨false, [17], [], .det 2 (.store 2 [] 0 .nil (.t 17)), [2, 17, 17, 3], none, none⟩])
 .ret)))))))
def s_ltoOrder : Sig := ⟨[.rd true [.d, .d, .sl (.own none) [.d, .d], .d]], (.one true [.d, .d, .sl (.own none) [.d, .d], .d])⟩
noncomputable def E_ltoOrder : TEnv := envOf [(129, p_ltoEdgeS)]
noncomputable def f_ltoOrder (n : Nat) : (Int × Int × List (Int × Int) × Int) → Option ((Int × Int × List (Int × Int) × Int) × Unit) := runFn n E_ltoOrder c_ltoOrder [[.i .i64, .i .i64, .sl [.i .i64, .i .i64], .i .i64]] [.i .i64, .i .i64, .sl [.i .i64, .i .i64], .i .i64] [] [2] .no
noncomputable def g_ltoOrder := f_ltoOrder BIG
noncomputable def p_ltoOrder : TSp := ⟨s_ltoOrder, [[.i .i64, .i .i64, .sl [.i .i64, .i .i64], .i .i64]], [.i .i64, .i .i64, .sl [.i .i64, .i .i64], .i .i64], [], Ou.j .no, g_ltoOrder⟩
theorem k_ltoOrder : chkW PG E_ltoOrder 85 s_ltoOrder (c_ltoOrder.ht 18) .no = some (c_ltoOrder.wc E_ltoOrder, [2]) := by kernel_rfl
theorem ok_ltoOrder : p_ltoOrder.Ok PG 85 := mkOk (env_cons ok_ltoEdgeS (env_nil PG)) k_ltoOrder (by kernel_rfl)
theorem e_ltoOrder (n : Nat) (a0 : Int × Int × List (Int × Int) × Int) : f_ltoOrder n a0 =
  Option.bind (g_ltoEdgeS a0.2.2.1) fun r0 =>
  some ((a0.1, a0.2.1, r0.1, a0.2.2.2), ()) := by kernel_rfl
def c_ltoTask : TC :=
 (.seq (.rg [o1 1 (.a (.t 0)),
   ⟨false, [], [], .det 2 (.a (.c [.i .i64, .i .i64, .i .i64, .i .i64, .i .i64, .i .i64, .i .i64, .sl [.i .i64, .i .i64], .i .i64] [.int .i64 (0), .int .i64 (0), .int .i64 (0), .int .i64 (0), .int .i64 (0), .int .i64 (0), .int .i64 (0), .slice none 0 0, .int .i64 (0)])), [2, 1000000001], (some 2), none⟩])
 (.seq (.rg [⟨false, [], [], .det 2 (.a (.c [.i .i64, .i .i64, .i .i64, .i .i64, .i .i64, .i .i64, .i .i64, .sl [.i .i64, .i .i64], .i .i64] [.int .i64 (0), .int .i64 (0), .int .i64 (0), .int .i64 (0), .int .i64 (0), .int .i64 (0), .int .i64 (0), .slice none 0 0, .int .i64 (0)])), [3, 1000000001], (some 3), none⟩])
 (.seq (.rg [o1 4 (.idx .nil),
   o1 5 (.load 1 [] 0 (.t 4) 4 false),
   o3 6 83 [.t 5],
   o1 7 (.idx .nil),
   o4 1 [3] (.store 3 [] 0 (.t 7) (.t 6))])
 (.seq (.rg [o1 8 (.idx .nil),
   o1 9 (.load 1 [] 4 (.t 8) 1 false),
   o1 10 (.idx .nil),
   o4 1 [3] (.store 3 [] 4 (.t 10) (.t 9))])
 (.seq (.rg [o1 11 (.idx .nil),
   o1 12 (.load 1 [] 5 (.t 11) 4 false),
   o3 13 85 [.t 12],
   o1 14 (.idx .nil),
   o4 2 [3, 13] (.store 3 [] 5 (.t 14) (.t 13))])
 (.seq (.rg [o1 15 (.load 3 [] 0 .nil 9 true),
   ⟨false, [15], [], .det 2 (.store 2 [] 0 .nil (.t 15)), [2, 15, 15, 3], none, none⟩])
 .ret))))))
def s_ltoTask : Sig := ⟨[.rd true [.d, .d, .d, .d, .d, .d, .d, .sl (.own none) [.d, .d], .d]], (.one true [.d, .d, .d, .d, .d, .d, .d, .sl (.own none) [.d, .d], .d])⟩
noncomputable def E_ltoTask : TEnv := envOf [(83, p_ltoAsk), (85, p_ltoOrder)]
noncomputable def f_ltoTask (n : Nat) : (Int × Int × Int × Int × Int × Int × Int × List (Int × Int) × Int) → Option ((Int × Int × Int × Int × Int × Int × Int × List (Int × Int) × Int) × Unit) := runFn n E_ltoTask c_ltoTask [[.i .i64, .i .i64, .i .i64, .i .i64, .i .i64, .i .i64, .i .i64, .sl [.i .i64, .i .i64], .i .i64]] [.i .i64, .i .i64, .i .i64, .i .i64, .i .i64, .i .i64, .i .i64, .sl [.i .i64, .i .i64], .i .i64] [] [2] .no
noncomputable def g_ltoTask := f_ltoTask BIG
noncomputable def p_ltoTask : TSp := ⟨s_ltoTask, [[.i .i64, .i .i64, .i .i64, .i .i64, .i .i64, .i .i64, .i .i64, .sl [.i .i64, .i .i64], .i .i64]], [.i .i64, .i .i64, .i .i64, .i .i64, .i .i64, .i .i64, .i .i64, .sl [.i .i64, .i .i64], .i .i64], [], Ou.j .no, g_ltoTask⟩
theorem k_ltoTask : chkW PG E_ltoTask 131 s_ltoTask (c_ltoTask.ht 16) .no = some (c_ltoTask.wc E_ltoTask, [2]) := by kernel_rfl
theorem ok_ltoTask : p_ltoTask.Ok PG 131 := mkOk (env_cons ok_ltoAsk (env_cons ok_ltoOrder (env_nil PG))) k_ltoTask (by kernel_rfl)
theorem e_ltoTask (n : Nat) (a0 : Int × Int × Int × Int × Int × Int × Int × List (Int × Int) × Int) : f_ltoTask n a0 =
  Option.bind (g_ltoAsk (a0.1, a0.2.1, a0.2.2.1, a0.2.2.2.1)) fun r0 =>
  Option.bind (g_ltoOrder a0.2.2.2.2.2) fun r1 =>
  some ((r0.1.1, r0.1.2.1, r0.1.2.2.1, r0.1.2.2.2, a0.2.2.2.2.1, r1.1), ()) := by kernel_rfl
def c_ltoSaid : TC :=
 (.seq (.rg [o1 1 (.a (.t 0)),
   ⟨false, [], [], .det 2 (.a (.c [.i .i64, .i .i64, .i .i64, .i .i64, .i .i64, .i .i64] [.int .i64 (0), .int .i64 (0), .int .i64 (0), .int .i64 (0), .int .i64 (0), .int .i64 (0)])), [2, 1000000001], (some 2), none⟩])
 (.seq (.rg [⟨false, [], [], .det 2 (.a (.c [.i .i64, .i .i64, .i .i64, .i .i64, .i .i64, .i .i64] [.int .i64 (0), .int .i64 (0), .int .i64 (0), .int .i64 (0), .int .i64 (0), .int .i64 (0)])), [3, 1000000001], (some 3), none⟩])
 (.seq (.rg [o1 4 (.idx .nil),
   o1 5 (.load 1 [] 0 (.t 4) 1 false),
   o1 6 (.idx .nil),
   o4 1 [3] (.store 3 [] 0 (.t 6) (.t 5))])
 (.seq (.rg [o1 7 (.idx .nil),
   o1 8 (.load 1 [] 1 (.t 7) 4 false),
   o3 9 83 [.t 8],
   o1 10 (.idx .nil),
   o4 1 [3] (.store 3 [] 1 (.t 10) (.t 9))])
 (.seq (.rg [o1 11 (.idx .nil),
   o1 12 (.load 1 [] 5 (.t 11) 1 false),
   o1 13 (.idx .nil),
   o4 1 [3] (.store 3 [] 5 (.t 13) (.t 12))])
 (.seq (.rg [o1 14 (.load 3 [] 0 .nil 6 false),
   o4 1 [2] (.store 2 [] 0 .nil (.t 14))])
 .ret))))))
def s_ltoSaid : Sig := ⟨[.rd true [.d, .d, .d, .d, .d, .d]], (.one true [.d, .d, .d, .d, .d, .d])⟩
noncomputable def E_ltoSaid : TEnv := envOf [(83, p_ltoAsk)]
noncomputable def f_ltoSaid (n : Nat) : (Int × Int × Int × Int × Int × Int) → Option ((Int × Int × Int × Int × Int × Int) × Unit) := runFn n E_ltoSaid c_ltoSaid [[.i .i64, .i .i64, .i .i64, .i .i64, .i .i64, .i .i64]] [.i .i64, .i .i64, .i .i64, .i .i64, .i .i64, .i .i64] [] [2] .no
noncomputable def g_ltoSaid := f_ltoSaid BIG
noncomputable def p_ltoSaid : TSp := ⟨s_ltoSaid, [[.i .i64, .i .i64, .i .i64, .i .i64, .i .i64, .i .i64]], [.i .i64, .i .i64, .i .i64, .i .i64, .i .i64, .i .i64], [], Ou.j .no, g_ltoSaid⟩
theorem k_ltoSaid : chkW PG E_ltoSaid 173 s_ltoSaid (c_ltoSaid.ht 15) .no = some (c_ltoSaid.wc E_ltoSaid, [2]) := by kernel_rfl
theorem ok_ltoSaid : p_ltoSaid.Ok PG 173 := mkOk (env_cons ok_ltoAsk (env_nil PG)) k_ltoSaid (by kernel_rfl)
theorem e_ltoSaid (n : Nat) (a0 : Int × Int × Int × Int × Int × Int) : f_ltoSaid n a0 =
  Option.bind (g_ltoAsk (a0.2.1, a0.2.2.1, a0.2.2.2.1, a0.2.2.2.2.1)) fun r0 =>
  some ((a0.1, r0.1.1, r0.1.2.1, r0.1.2.2.1, r0.1.2.2.2, a0.2.2.2.2.2), ()) := by kernel_rfl
def c_ltoSaidS : TC :=
 (.seq (.rg [o1 2 (.lit [.sl [.i .i64, .i .i64, .i .i64, .i .i64, .i .i64, .i .i64]] [.slice none 0 0])])
 (.seq (.rg [o1 5 (.copy 0),
   o1 6 (.len 5),
   o1 7 (.make (.t 6) [.i .i64, .i .i64, .i .i64, .i .i64, .i .i64, .i .i64]),
   ⟨false, [], [], .det 2 (.copy 7), [3, 7], (some 3), none⟩])
 (.seq (.join [⟨3, [.sl [.i .i64, .i .i64, .i .i64, .i .i64, .i .i64, .i .i64]], false⟩] 4194072 none (.seq (.rg [o1 4 (.lit [.i .i64] [.int .i64 (0)])])
 (.block 0 (.loop [⟨3, [.sl [.i .i64, .i .i64, .i .i64, .i .i64, .i .i64, .i .i64]], false⟩, ⟨4, [.i .i64], false⟩] 4194072
  (.seq (.seq (.rg [o1 8 (.copy 4),
    o1 9 (.copy 0),
    o1 10 (.len 9),
    o1 11 (.data (.bin .lss) [.t 8, .t 10])])
  (.cond (.t 11)
   .skip
   (.exit 0)))
  (.seq (.block 1 (.rg [⟨true, [], [], .det 1 (.copy 3), [14], (some 14), none⟩,
    o1 15 (.copy 4),
    o1 16 (.copy 0),
    o1 17 (.copy 4),
    o1 18 (.index 16 (.t 17)),
    o1 19 (.load 16 [(0, 6)] 0 (.t 18) 6 false),
    o3 20 173 [.t 19],
    o1 21 (.index 14 (.t 15)),
    o4 1 [3, 14] (.store 3 [(0, 6)] 0 (.t 21) (.t 20))]))
  (.rg [o1 12 (.copy 4),
    o1 13 (.data (.bin .add) [.t 12, .c (.int .i64 (1))]),
    o1 4 (.copy 13)])))))))
 (.seq (.rg [⟨false, [], [], .det 2 (.copy 3), [22, 3], (some 22), none⟩,
   ⟨false, [], [], .det 2 (.copy 22), [2, 22], (some 2), none⟩])
 .ret))))
def s_ltoSaidS : Sig := ⟨[.rd false [.sl (.own none) [.d, .d, .d, .d, .d, .d]]], (.one false [.sl (.own none) [.d, .d, .d, .d, .d, .d]])⟩
noncomputable def E_ltoSaidS : TEnv := envOf [(173, p_ltoSaid)]
noncomputable def f_ltoSaidS (n : Nat) : (List (Int × Int × Int × Int × Int × Int)) → Option ((List (Int × Int × Int × Int × Int × Int)) × Unit) := runFn n E_ltoSaidS c_ltoSaidS [[.sl [.i .i64, .i .i64, .i .i64, .i .i64, .i .i64, .i .i64]]] [.sl [.i .i64, .i .i64, .i .i64, .i .i64, .i .i64, .i .i64]] [] [2] .no
noncomputable def g_ltoSaidS := f_ltoSaidS BIG
noncomputable def p_ltoSaidS : TSp := ⟨s_ltoSaidS, [[.sl [.i .i64, .i .i64, .i .i64, .i .i64, .i .i64, .i .i64]]], [.sl [.i .i64, .i .i64, .i .i64, .i .i64, .i .i64, .i .i64]], [], Ou.j .no, g_ltoSaidS⟩
theorem k_ltoSaidS : chkW PG E_ltoSaidS 132 s_ltoSaidS (c_ltoSaidS.ht 23) .no = some (c_ltoSaidS.wc E_ltoSaidS, [2]) := by kernel_rfl
theorem ok_ltoSaidS : p_ltoSaidS.Ok PG 132 := mkOk (env_cons ok_ltoSaid (env_nil PG)) k_ltoSaidS (by kernel_rfl)
theorem e_ltoSaidS (n : Nat) (a0 : List (Int × Int × Int × Int × Int × Int)) : f_ltoSaidS n a0 =
  bif decide (0 ≤ (a0.length : Int)) then
   bif decide ((Int.toNat (a0.length : Int)) ≤ 4294967296) then
    Option.bind (loopT n (X := (List (Int × Int × Int × Int × Int × Int)) × Int) (B := (List (Int × Int × Int × Int × Int × Int))) (fun self1 x0 =>
      bif decide (x0.2 < (a0.length : Int)) then
       bnd a0.length x0.2 fun n2 =>
       Option.bind a0[n2]? fun y3 =>
       Option.bind (g_ltoSaid y3) fun r4 =>
       bnd x0.1.length x0.2 fun n5 =>
       Option.bind x0.1[n5]? fun y6 =>
       self1 (x0.1.set n5 r4.1, IntKind.wrap .i64 (x0.2 + (1 : Int)))
      else some x0.1) (List.replicate (Int.toNat (a0.length : Int)) ((0 : Int), (0 : Int), (0 : Int), (0 : Int), (0 : Int), (0 : Int)), (0 : Int)) : Option ((List (Int × Int × Int × Int × Int × Int)))) fun x7 =>
    some (x7, ())
   else none
  else none := by kernel_rfl
def c_ltoHead : TC :=
 (.seq (.rg [o1 1 (.a (.t 0)),
   ⟨false, [], [], .det 2 (.a (.c [.i .i64, .sl [.i .i64], .sl [.i .i64, .i .i64], .sl [.sl [.i .i64]], .sl [.i .i64], .i .i64, .i .i64, .i .i64, .i .i64, .i .i64, .i .i64, .i .i64, .sl [.i .i64, .i .i64], .i .i64, .sl [.i .i64, .i .i64, .i .i64, .i .i64, .i .i64, .i .i64]] [.int .i64 (0), .slice none 0 0, .slice none 0 0, .slice none 0 0, .slice none 0 0, .int .i64 (0), .int .i64 (0), .int .i64 (0), .int .i64 (0), .int .i64 (0), .int .i64 (0), .int .i64 (0), .slice none 0 0, .int .i64 (0), .slice none 0 0])), [2, 1000000001], (some 2), none⟩])
 (.seq (.rg [⟨false, [], [], .det 2 (.a (.c [.i .i64, .sl [.i .i64], .sl [.i .i64, .i .i64], .sl [.sl [.i .i64]], .sl [.i .i64], .i .i64, .i .i64, .i .i64, .i .i64, .i .i64, .i .i64, .i .i64, .sl [.i .i64, .i .i64], .i .i64, .sl [.i .i64, .i .i64, .i .i64, .i .i64, .i .i64, .i .i64]] [.int .i64 (0), .slice none 0 0, .slice none 0 0, .slice none 0 0, .slice none 0 0, .int .i64 (0), .int .i64 (0), .int .i64 (0), .int .i64 (0), .int .i64 (0), .int .i64 (0), .int .i64 (0), .slice none 0 0, .int .i64 (0), .slice none 0 0])), [3, 1000000001], (some 3), none⟩])
 (.seq (.rg [o1 4 (.idx .nil),
   o1 5 (.load 1 [] 0 (.t 4) 1 false),
   o1 6 (.idx .nil),
   o4 1 [3] (.store 3 [] 0 (.t 6) (.t 5))])
 (.seq (.rg [o1 7 (.idx .nil),
   o1 8 (.load 1 [] 1 (.t 7) 1 false),
   o3 9 128 [.t 8],
   o1 10 (.idx .nil),
   o4 2 [3, 9] (.store 3 [] 1 (.t 10) (.t 9))])
 (.seq (.rg [o1 11 (.idx .nil),
   o1 12 (.load 1 [] 2 (.t 11) 1 false),
   o3 13 129 [.t 12],
   o1 14 (.idx .nil),
   o4 2 [3, 13] (.store 3 [] 2 (.t 14) (.t 13))])
 (.seq (.rg [o1 15 (.idx .nil),
   o1 16 (.load 1 [] 3 (.t 15) 1 false),
   o3 17 130 [.t 16],
   o1 18 (.idx .nil),
   o4 2 [3, 17] (.store 3 [] 3 (.t 18) (.t 17))])
 (.seq (.rg [o1 19 (.idx .nil),
   o1 20 (.load 1 [] 4 (.t 19) 1 false),
   o3 21 128 [.t 20],
   o1 22 (.idx .nil),
   o4 2 [3, 21] (.store 3 [] 4 (.t 22) (.t 21))])
 (.seq (.rg [o1 23 (.idx .nil),
   o1 24 (.load 1 [] 5 (.t 23) 9 false),
   o3 25 131 [.t 24],
   o1 26 (.idx .nil),
   o4 2 [3, 25] (.store 3 [] 5 (.t 26) (.t 25))])
 (.seq (.rg [o1 27 (.idx .nil),
   o1 28 (.load 1 [] 14 (.t 27) 1 false),
   o3 29 132 [.t 28],
   o1 30 (.idx .nil),
   o4 2 [3, 29] (.store 3 [] 14 (.t 30) (.t 29))])
 (.seq (.rg [o1 31 (.load 3 [] 0 .nil 15 true),
   ⟨false, [31], [], .det 2 (.store 2 [] 0 .nil (.t 31)), [2, 31, 31, 3], none, none⟩])
 .ret))))))))))
def s_ltoHead : Sig := ⟨[.rd true [.d, .sl (.own none) [.d], .sl (.own none) [.d, .d], .sl (.own none) [.sl (.own none) [.d]], .sl (.own none) [.d], .d, .d, .d, .d, .d, .d, .d, .sl (.own none) [.d, .d], .d, .sl (.own none) [.d, .d, .d, .d, .d, .d]]], (.one true [.d, .sl (.own none) [.d], .sl (.own none) [.d, .d], .sl (.own none) [.sl (.own none) [.d]], .sl (.own none) [.d], .d, .d, .d, .d, .d, .d, .d, .sl (.own none) [.d, .d], .d, .sl (.own none) [.d, .d, .d, .d, .d, .d]])⟩
noncomputable def E_ltoHead : TEnv := envOf [(128, p_ltoIntS), (129, p_ltoEdgeS), (130, p_ltoIntSS), (131, p_ltoTask), (132, p_ltoSaidS)]
noncomputable def f_ltoHead (n : Nat) : (Int × List (Int) × List (Int × Int) × List (List (Int)) × List (Int) × Int × Int × Int × Int × Int × Int × Int × List (Int × Int) × Int × List (Int × Int × Int × Int × Int × Int)) → Option ((Int × List (Int) × List (Int × Int) × List (List (Int)) × List (Int) × Int × Int × Int × Int × Int × Int × Int × List (Int × Int) × Int × List (Int × Int × Int × Int × Int × Int)) × Unit) := runFn n E_ltoHead c_ltoHead [[.i .i64, .sl [.i .i64], .sl [.i .i64, .i .i64], .sl [.sl [.i .i64]], .sl [.i .i64], .i .i64, .i .i64, .i .i64, .i .i64, .i .i64, .i .i64, .i .i64, .sl [.i .i64, .i .i64], .i .i64, .sl [.i .i64, .i .i64, .i .i64, .i .i64, .i .i64, .i .i64]]] [.i .i64, .sl [.i .i64], .sl [.i .i64, .i .i64], .sl [.sl [.i .i64]], .sl [.i .i64], .i .i64, .i .i64, .i .i64, .i .i64, .i .i64, .i .i64, .i .i64, .sl [.i .i64, .i .i64], .i .i64, .sl [.i .i64, .i .i64, .i .i64, .i .i64, .i .i64, .i .i64]] [] [2] .no
noncomputable def g_ltoHead := f_ltoHead BIG
noncomputable def p_ltoHead : TSp := ⟨s_ltoHead, [[.i .i64, .sl [.i .i64], .sl [.i .i64, .i .i64], .sl [.sl [.i .i64]], .sl [.i .i64], .i .i64, .i .i64, .i .i64, .i .i64, .i .i64, .i .i64, .i .i64, .sl [.i .i64, .i .i64], .i .i64, .sl [.i .i64, .i .i64, .i .i64, .i .i64, .i .i64, .i .i64]]], [.i .i64, .sl [.i .i64], .sl [.i .i64, .i .i64], .sl [.sl [.i .i64]], .sl [.i .i64], .i .i64, .i .i64, .i .i64, .i .i64, .i .i64, .i .i64, .i .i64, .sl [.i .i64, .i .i64], .i .i64, .sl [.i .i64, .i .i64, .i .i64, .i .i64, .i .i64, .i .i64]], [], Ou.j .no, g_ltoHead⟩
theorem k_ltoHead : chkW PG E_ltoHead 62 s_ltoHead (c_ltoHead.ht 32) .no = some (c_ltoHead.wc E_ltoHead, [2]) := by kernel_rfl
theorem ok_ltoHead : p_ltoHead.Ok PG 62 := mkOk (env_cons ok_ltoIntS (env_cons ok_ltoEdgeS (env_cons ok_ltoIntSS (env_cons ok_ltoTask (env_cons ok_ltoSaidS (env_nil PG)))))) k_ltoHead (by kernel_rfl)
theorem e_ltoHead (n : Nat) (a0 : Int × List (Int) × List (Int × Int) × List ((List (Int))) × List (Int) × Int × Int × Int × Int × Int × Int × Int × List (Int × Int) × Int × List (Int × Int × Int × Int × Int × Int)) : f_ltoHead n a0 =
  Option.bind (g_ltoIntS a0.2.1) fun r0 =>
  Option.bind (g_ltoEdgeS a0.2.2.1) fun r1 =>
  Option.bind (g_ltoIntSS a0.2.2.2.1) fun r2 =>
  Option.bind (g_ltoIntS a0.2.2.2.2.1) fun r3 =>
  Option.bind (g_ltoTask (a0.2.2.2.2.2.1, a0.2.2.2.2.2.2.1, a0.2.2.2.2.2.2.2.1, a0.2.2.2.2.2.2.2.2.1, a0.2.2.2.2.2.2.2.2.2.1, a0.2.2.2.2.2.2.2.2.2.2.1, a0.2.2.2.2.2.2.2.2.2.2.2.1, a0.2.2.2.2.2.2.2.2.2.2.2.2.1, a0.2.2.2.2.2.2.2.2.2.2.2.2.2.1)) fun r4 =>
  Option.bind (g_ltoSaidS a0.2.2.2.2.2.2.2.2.2.2.2.2.2.2) fun r5 =>
  some ((a0.1, r0.1, r1.1, r2.1, r3.1, r4.1.1, r4.1.2.1, r4.1.2.2.1, r4.1.2.2.2.1, r4.1.2.2.2.2.1, r4.1.2.2.2.2.2.1, r4.1.2.2.2.2.2.2.1, r4.1.2.2.2.2.2.2.2.1, r4.1.2.2.2.2.2.2.2.2, r5.1), ()) := by kernel_rfl
def c_ltoLedge : TC :=
 (.seq (.rg [o1 1 (.a (.t 0)),
   ⟨false, [], [], .det 2 (.a (.c [.i .i64, .i .i64, .i .i64, .b] [.int .i64 (0), .int .i64 (0), .int .i64 (0), .bool false])), [2, 1000000001], (some 2), none⟩])
 (.seq (.rg [⟨false, [], [], .det 2 (.a (.c [.i .i64, .i .i64, .i .i64, .b] [.int .i64 (0), .int .i64 (0), .int .i64 (0), .bool false])), [3, 1000000001], (some 3), none⟩])
 (.seq (.rg [o1 4 (.idx .nil),
   o1 5 (.load 1 [] 0 (.t 4) 1 false),
   o1 6 (.idx .nil),
   o4 1 [3] (.store 3 [] 0 (.t 6) (.t 5))])
 (.seq (.rg [o1 7 (.idx .nil),
   o1 8 (.load 1 [] 1 (.t 7) 1 false),
   o1 9 (.idx .nil),
   o4 1 [3] (.store 3 [] 1 (.t 9) (.t 8))])
 (.seq (.rg [o1 10 (.idx .nil),
   o1 11 (.load 1 [] 2 (.t 10) 1 false),
   o1 12 (.idx .nil),
   o4 1 [3] (.store 3 [] 2 (.t 12) (.t 11))])
 (.seq (.rg [o1 13 (.idx .nil),
   o1 14 (.load 1 [] 3 (.t 13) 1 false),
   o1 15 (.idx .nil),
   o4 1 [3] (.store 3 [] 3 (.t 15) (.t 14))])
 (.seq (.rg [o1 16 (.load 3 [] 0 .nil 4 false),
   o4 1 [2] (.store 2 [] 0 .nil (.t 16))])
 .ret)))))))
def s_ltoLedge : Sig := ⟨[.rd true [.d, .d, .d, .d]], (.one true [.d, .d, .d, .d])⟩
noncomputable def E_ltoLedge : TEnv := envOf []
noncomputable def f_ltoLedge (n : Nat) : (Int × Int × Int × Bool) → Option ((Int × Int × Int × Bool) × Unit) := runFn n E_ltoLedge c_ltoLedge [[.i .i64, .i .i64, .i .i64, .b]] [.i .i64, .i .i64, .i .i64, .b] [] [2] .no
noncomputable def g_ltoLedge := f_ltoLedge BIG
noncomputable def p_ltoLedge : TSp := ⟨s_ltoLedge, [[.i .i64, .i .i64, .i .i64, .b]], [.i .i64, .i .i64, .i .i64, .b], [], Ou.j .no, g_ltoLedge⟩
theorem k_ltoLedge : chkW PG E_ltoLedge 198 s_ltoLedge (c_ltoLedge.ht 17) .no = some (c_ltoLedge.wc E_ltoLedge, [2]) := by kernel_rfl
theorem ok_ltoLedge : p_ltoLedge.Ok PG 198 := mkOk (env_nil PG) k_ltoLedge (by kernel_rfl)
theorem e_ltoLedge (n : Nat) (a0 : Int × Int × Int × Bool) : f_ltoLedge n a0 =
  some (a0, ()) := by kernel_rfl
def c_ltoLedgeS : TC :=
 (.seq (.rg [o1 2 (.lit [.sl [.i .i64, .i .i64, .i .i64, .b]] [.slice none 0 0])])
 (.seq (.rg [o1 5 (.copy 0),
   o1 6 (.len 5),
   o1 7 (.make (.t 6) [.i .i64, .i .i64, .i .i64, .b]),
   ⟨false, [], [], .det 2 (.copy 7), [3, 7], (some 3), none⟩])
 (.seq (.join [⟨3, [.sl [.i .i64, .i .i64, .i .i64, .b]], false⟩] 4194072 none (.seq (.rg [o1 4 (.lit [.i .i64] [.int .i64 (0)])])
 (.block 0 (.loop [⟨3, [.sl [.i .i64, .i .i64, .i .i64, .b]], false⟩, ⟨4, [.i .i64], false⟩] 4194072
  (.seq (.seq (.rg [o1 8 (.copy 4),
    o1 9 (.copy 0),
    o1 10 (.len 9),
    o1 11 (.data (.bin .lss) [.t 8, .t 10])])
  (.cond (.t 11)
   .skip
   (.exit 0)))
  (.seq (.block 1 (.rg [⟨true, [], [], .det 1 (.copy 3), [14], (some 14), none⟩,
    o1 15 (.copy 4),
    o1 16 (.copy 0),
    o1 17 (.copy 4),
    o1 18 (.index 16 (.t 17)),
    o1 19 (.load 16 [(0, 4)] 0 (.t 18) 4 false),
    o3 20 198 [.t 19],
    o1 21 (.index 14 (.t 15)),
    o4 1 [3, 14] (.store 3 [(0, 4)] 0 (.t 21) (.t 20))]))
  (.rg [o1 12 (.copy 4),
    o1 13 (.data (.bin .add) [.t 12, .c (.int .i64 (1))]),
    o1 4 (.copy 13)])))))))
 (.seq (.rg [⟨false, [], [], .det 2 (.copy 3), [22, 3], (some 22), none⟩,
   ⟨false, [], [], .det 2 (.copy 22), [2, 22], (some 2), none⟩])
 .ret))))
def s_ltoLedgeS : Sig := ⟨[.rd false [.sl (.own none) [.d, .d, .d, .d]]], (.one false [.sl (.own none) [.d, .d, .d, .d]])⟩
noncomputable def E_ltoLedgeS : TEnv := envOf [(198, p_ltoLedge)]
noncomputable def f_ltoLedgeS (n : Nat) : (List (Int × Int × Int × Bool)) → Option ((List (Int × Int × Int × Bool)) × Unit) := runFn n E_ltoLedgeS c_ltoLedgeS [[.sl [.i .i64, .i .i64, .i .i64, .b]]] [.sl [.i .i64, .i .i64, .i .i64, .b]] [] [2] .no
noncomputable def g_ltoLedgeS := f_ltoLedgeS BIG
noncomputable def p_ltoLedgeS : TSp := ⟨s_ltoLedgeS, [[.sl [.i .i64, .i .i64, .i .i64, .b]]], [.sl [.i .i64, .i .i64, .i .i64, .b]], [], Ou.j .no, g_ltoLedgeS⟩
theorem k_ltoLedgeS : chkW PG E_ltoLedgeS 192 s_ltoLedgeS (c_ltoLedgeS.ht 23) .no = some (c_ltoLedgeS.wc E_ltoLedgeS, [2]) := by kernel_rfl
theorem ok_ltoLedgeS : p_ltoLedgeS.Ok PG 192 := mkOk (env_cons ok_ltoLedge (env_nil PG)) k_ltoLedgeS (by kernel_rfl)
theorem e_ltoLedgeS (n : Nat) (a0 : List (Int × Int × Int × Bool)) : f_ltoLedgeS n a0 =
  bif decide (0 ≤ (a0.length : Int)) then
   bif decide ((Int.toNat (a0.length : Int)) ≤ 4294967296) then
    Option.bind (loopT n (X := (List (Int × Int × Int × Bool)) × Int) (B := (List (Int × Int × Int × Bool))) (fun self1 x0 =>
      bif decide (x0.2 < (a0.length : Int)) then
       bnd a0.length x0.2 fun n2 =>
       Option.bind a0[n2]? fun y3 =>
       Option.bind (g_ltoLedge y3) fun r4 =>
       bnd x0.1.length x0.2 fun n5 =>
       Option.bind x0.1[n5]? fun y6 =>
       self1 (x0.1.set n5 r4.1, IntKind.wrap .i64 (x0.2 + (1 : Int)))
      else some x0.1) (List.replicate (Int.toNat (a0.length : Int)) ((0 : Int), (0 : Int), (0 : Int), false), (0 : Int)) : Option ((List (Int × Int × Int × Bool)))) fun x7 =>
    some (x7, ())
   else none
  else none := by kernel_rfl
def c_ltoWeb : TC :=
 (.seq (.rg [o1 1 (.a (.t 0)),
   ⟨false, [], [], .det 2 (.a (.c [.i .i64, .sl [.i .i64, .i .i64, .i .i64, .b]] [.int .i64 (0), .slice none 0 0])), [2, 1000000001], (some 2), none⟩])
 (.seq (.rg [⟨false, [], [], .det 2 (.a (.c [.i .i64, .sl [.i .i64, .i .i64, .i .i64, .b]] [.int .i64 (0), .slice none 0 0])), [3, 1000000001], (some 3), none⟩])
 (.seq (.rg [o1 4 (.idx .nil),
   o1 5 (.load 1 [] 0 (.t 4) 1 false),
   o1 6 (.idx .nil),
   o4 1 [3] (.store 3 [] 0 (.t 6) (.t 5))])
 (.seq (.rg [o1 7 (.idx .nil),
   o1 8 (.load 1 [] 1 (.t 7) 1 false),
   o3 9 192 [.t 8],
   o1 10 (.idx .nil),
   o4 2 [3, 9] (.store 3 [] 1 (.t 10) (.t 9))])
 (.seq (.rg [o1 11 (.load 3 [] 0 .nil 2 true),
   ⟨false, [11], [], .det 2 (.store 2 [] 0 .nil (.t 11)), [2, 11, 11, 3], none, none⟩])
 .ret)))))
def s_ltoWeb : Sig := ⟨[.rd true [.d, .sl (.own none) [.d, .d, .d, .d]]], (.one true [.d, .sl (.own none) [.d, .d, .d, .d]])⟩
noncomputable def E_ltoWeb : TEnv := envOf [(192, p_ltoLedgeS)]
noncomputable def f_ltoWeb (n : Nat) : (Int × List (Int × Int × Int × Bool)) → Option ((Int × List (Int × Int × Int × Bool)) × Unit) := runFn n E_ltoWeb c_ltoWeb [[.i .i64, .sl [.i .i64, .i .i64, .i .i64, .b]]] [.i .i64, .sl [.i .i64, .i .i64, .i .i64, .b]] [] [2] .no
noncomputable def g_ltoWeb := f_ltoWeb BIG
noncomputable def p_ltoWeb : TSp := ⟨s_ltoWeb, [[.i .i64, .sl [.i .i64, .i .i64, .i .i64, .b]]], [.i .i64, .sl [.i .i64, .i .i64, .i .i64, .b]], [], Ou.j .no, g_ltoWeb⟩
theorem k_ltoWeb : chkW PG E_ltoWeb 174 s_ltoWeb (c_ltoWeb.ht 12) .no = some (c_ltoWeb.wc E_ltoWeb, [2]) := by kernel_rfl
theorem ok_ltoWeb : p_ltoWeb.Ok PG 174 := mkOk (env_cons ok_ltoLedgeS (env_nil PG)) k_ltoWeb (by kernel_rfl)
theorem e_ltoWeb (n : Nat) (a0 : Int × List (Int × Int × Int × Bool)) : f_ltoWeb n a0 =
  Option.bind (g_ltoLedgeS a0.2) fun r0 =>
  some ((a0.1, r0.1), ()) := by kernel_rfl
def c_ltoAnswer : TC :=
 (.seq (.rg [o1 1 (.a (.t 0)),
   ⟨false, [], [], .det 2 (.a (.c [.i .i64, .b, .sl [.i .i64, .i .i64], .sl [.i .i64]] [.int .i64 (0), .bool false, .slice none 0 0, .slice none 0 0])), [2, 1000000001], (some 2), none⟩])
 (.seq (.rg [⟨false, [], [], .det 2 (.a (.c [.i .i64, .b, .sl [.i .i64, .i .i64], .sl [.i .i64]] [.int .i64 (0), .bool false, .slice none 0 0, .slice none 0 0])), [3, 1000000001], (some 3), none⟩])
 (.seq (.rg [o1 4 (.idx .nil),
   o1 5 (.load 1 [] 0 (.t 4) 1 false),
   o1 6 (.idx .nil),
   o4 1 [3] (.store 3 [] 0 (.t 6) (.t 5))])
 (.seq (.rg [o1 7 (.idx .nil),
   o1 8 (.load 1 [] 1 (.t 7) 1 false),
   o1 9 (.idx .nil),
   o4 1 [3] (.store 3 [] 1 (.t 9) (.t 8))])
 (.seq (.rg [o1 10 (.idx .nil),
   o1 11 (.load 1 [] 2 (.t 10) 1 false),
   o3 12 129 [.t 11],
   o1 13 (.idx .nil),
   o4 2 [3, 12] (.store 3 [] 2 (.t 13) (.t 12))])
 (.seq (.rg [o1 14 (.idx .nil),
   o1 15 (.load 1 [] 3 (.t 14) 1 false),
   o3 16 128 [.t 15],
   o1 17 (.idx .nil),
   o4 2 [3, 16] (.store 3 [] 3 (.t 17) (.t 16))])
 (.seq (.rg [o1 18 (.load 3 [] 0 .nil 4 true),
   ⟨false, [18], [], .det 2 (.store 2 [] 0 .nil (.t 18)), [2, 18, 18, 3], none, none⟩])
 .ret)))))))
def s_ltoAnswer : Sig := ⟨[.rd true [.d, .d, .sl (.own none) [.d, .d], .sl (.own none) [.d]]], (.one true [.d, .d, .sl (.own none) [.d, .d], .sl (.own none) [.d]])⟩
noncomputable def E_ltoAnswer : TEnv := envOf [(129, p_ltoEdgeS), (128, p_ltoIntS)]
noncomputable def f_ltoAnswer (n : Nat) : (Int × Bool × List (Int × Int) × List (Int)) → Option ((Int × Bool × List (Int × Int) × List (Int)) × Unit) := runFn n E_ltoAnswer c_ltoAnswer [[.i .i64, .b, .sl [.i .i64, .i .i64], .sl [.i .i64]]] [.i .i64, .b, .sl [.i .i64, .i .i64], .sl [.i .i64]] [] [2] .no
noncomputable def g_ltoAnswer := f_ltoAnswer BIG
noncomputable def p_ltoAnswer : TSp := ⟨s_ltoAnswer, [[.i .i64, .b, .sl [.i .i64, .i .i64], .sl [.i .i64]]], [.i .i64, .b, .sl [.i .i64, .i .i64], .sl [.i .i64]], [], Ou.j .no, g_ltoAnswer⟩
theorem k_ltoAnswer : chkW PG E_ltoAnswer 84 s_ltoAnswer (c_ltoAnswer.ht 19) .no = some (c_ltoAnswer.wc E_ltoAnswer, [2]) := by kernel_rfl
theorem ok_ltoAnswer : p_ltoAnswer.Ok PG 84 := mkOk (env_cons ok_ltoEdgeS (env_cons ok_ltoIntS (env_nil PG))) k_ltoAnswer (by kernel_rfl)
theorem e_ltoAnswer (n : Nat) (a0 : Int × Bool × List (Int × Int) × List (Int)) : f_ltoAnswer n a0 =
  Option.bind (g_ltoEdgeS a0.2.2.1) fun r0 =>
  Option.bind (g_ltoIntS a0.2.2.2) fun r1 =>
  some ((a0.1, a0.2.1, r0.1, r1.1), ()) := by kernel_rfl
def c_ltoShard : TC :=
 (.seq (.rg [o1 1 (.a (.t 0)),
   ⟨false, [], [], .det 2 (.a (.c [.i .i64, .i .i64, .sl [.i .i64, .i .i64, .i .i64, .b], .i .i64, .b, .sl [.i .i64, .i .i64], .sl [.i .i64]] [.int .i64 (0), .int .i64 (0), .slice none 0 0, .int .i64 (0), .bool false, .slice none 0 0, .slice none 0 0])), [2, 1000000001], (some 2), none⟩])
 (.seq (.rg [⟨false, [], [], .det 2 (.a (.c [.i .i64, .i .i64, .sl [.i .i64, .i .i64, .i .i64, .b], .i .i64, .b, .sl [.i .i64, .i .i64], .sl [.i .i64]] [.int .i64 (0), .int .i64 (0), .slice none 0 0, .int .i64 (0), .bool false, .slice none 0 0, .slice none 0 0])), [3, 1000000001], (some 3), none⟩])
 (.seq (.rg [o1 4 (.idx .nil),
   o1 5 (.load 1 [] 0 (.t 4) 1 false),
   o1 6 (.idx .nil),
   o4 1 [3] (.store 3 [] 0 (.t 6) (.t 5))])
 (.seq (.rg [o1 7 (.idx .nil),
   o1 8 (.load 1 [] 1 (.t 7) 2 false),
   o3 9 174 [.t 8],
   o1 10 (.idx .nil),
   o4 2 [3, 9] (.store 3 [] 1 (.t 10) (.t 9))])
 (.seq (.rg [o1 11 (.idx .nil),
   o1 12 (.load 1 [] 3 (.t 11) 4 false),
   o3 13 84 [.t 12],
   o1 14 (.idx .nil),
   o4 2 [3, 13] (.store 3 [] 3 (.t 14) (.t 13))])
 (.seq (.rg [o1 15 (.load 3 [] 0 .nil 7 true),
   ⟨false, [15], [], .det 2 (.store 2 [] 0 .nil (.t 15)), [2, 15, 15, 3], none, none⟩])
 .ret))))))
def s_ltoShard : Sig := ⟨[.rd true [.d, .d, .sl (.own none) [.d, .d, .d, .d], .d, .d, .sl (.own none) [.d, .d], .sl (.own none) [.d]]], (.one true [.d, .d, .sl (.own none) [.d, .d, .d, .d], .d, .d, .sl (.own none) [.d, .d], .sl (.own none) [.d]])⟩
noncomputable def E_ltoShard : TEnv := envOf [(174, p_ltoWeb), (84, p_ltoAnswer)]
noncomputable def f_ltoShard (n : Nat) : (Int × Int × List (Int × Int × Int × Bool) × Int × Bool × List (Int × Int) × List (Int)) → Option ((Int × Int × List (Int × Int × Int × Bool) × Int × Bool × List (Int × Int) × List (Int)) × Unit) := runFn n E_ltoShard c_ltoShard [[.i .i64, .i .i64, .sl [.i .i64, .i .i64, .i .i64, .b], .i .i64, .b, .sl [.i .i64, .i .i64], .sl [.i .i64]]] [.i .i64, .i .i64, .sl [.i .i64, .i .i64, .i .i64, .b], .i .i64, .b, .sl [.i .i64, .i .i64], .sl [.i .i64]] [] [2] .no
noncomputable def g_ltoShard := f_ltoShard BIG
noncomputable def p_ltoShard : TSp := ⟨s_ltoShard, [[.i .i64, .i .i64, .sl [.i .i64, .i .i64, .i .i64, .b], .i .i64, .b, .sl [.i .i64, .i .i64], .sl [.i .i64]]], [.i .i64, .i .i64, .sl [.i .i64, .i .i64, .i .i64, .b], .i .i64, .b, .sl [.i .i64, .i .i64], .sl [.i .i64]], [], Ou.j .no, g_ltoShard⟩
theorem k_ltoShard : chkW PG E_ltoShard 133 s_ltoShard (c_ltoShard.ht 16) .no = some (c_ltoShard.wc E_ltoShard, [2]) := by kernel_rfl
theorem ok_ltoShard : p_ltoShard.Ok PG 133 := mkOk (env_cons ok_ltoWeb (env_cons ok_ltoAnswer (env_nil PG))) k_ltoShard (by kernel_rfl)
theorem e_ltoShard (n : Nat) (a0 : Int × Int × List (Int × Int × Int × Bool) × Int × Bool × List (Int × Int) × List (Int)) : f_ltoShard n a0 =
  Option.bind (g_ltoWeb (a0.2.1, a0.2.2.1)) fun r0 =>
  Option.bind (g_ltoAnswer a0.2.2.2) fun r1 =>
  some ((a0.1, r0.1.1, r0.1.2, r1.1), ()) := by kernel_rfl
def c_ltoShardS : TC :=
 (.seq (.rg [o1 2 (.lit [.sl [.i .i64, .i .i64, .sl [.i .i64, .i .i64, .i .i64, .b], .i .i64, .b, .sl [.i .i64, .i .i64], .sl [.i .i64]]] [.slice none 0 0])])
 (.seq (.rg [o1 5 (.copy 0),
   o1 6 (.len 5),
   o1 7 (.make (.t 6) [.i .i64, .i .i64, .sl [.i .i64, .i .i64, .i .i64, .b], .i .i64, .b, .sl [.i .i64, .i .i64], .sl [.i .i64]]),
   ⟨false, [], [], .det 2 (.copy 7), [3, 7], (some 3), none⟩])
 (.seq (.join [⟨3, [.sl [.i .i64, .i .i64, .sl [.i .i64, .i .i64, .i .i64, .b], .i .i64, .b, .sl [.i .i64, .i .i64], .sl [.i .i64]]], false⟩] 4194072 none (.seq (.rg [o1 4 (.lit [.i .i64] [.int .i64 (0)])])
 (.block 0 (.loop [⟨3, [.sl [.i .i64, .i .i64, .sl [.i .i64, .i .i64, .i .i64, .b], .i .i64, .b, .sl [.i .i64, .i .i64], .sl [.i .i64]]], false⟩, ⟨4, [.i .i64], false⟩] 4194072
  (.seq (.seq (.rg [o1 8 (.copy 4),
    o1 9 (.copy 0),
    o1 10 (.len 9),
    o1 11 (.data (.bin .lss) [.t 8, .t 10])])
  (.cond (.t 11)
   .skip
   (.exit 0)))
  (.seq (.block 1 (.rg [⟨true, [], [], .det 1 (.copy 3), [14], (some 14), none⟩,
    o1 15 (.copy 4),
    o1 16 (.copy 0),
    o1 17 (.copy 4),
    o1 18 (.index 16 (.t 17)),
    o1 19 (.load 16 [(0, 7)] 0 (.t 18) 7 false),
    o3 20 133 [.t 19],
    o1 21 (.index 14 (.t 15)),
    o4 2 [3, 20, 21, 14] (.store 3 [(0, 7)] 0 (.t 21) (.t 20))]))
  (.rg [o1 12 (.copy 4),
    o1 13 (.data (.bin .add) [.t 12, .c (.int .i64 (1))]),
    o1 4 (.copy 13)])))))))
 (.seq (.rg [⟨false, [], [], .det 2 (.copy 3), [22, 3], (some 22), none⟩,
   ⟨false, [], [], .det 2 (.copy 22), [2, 22], (some 2), none⟩])
 .ret))))
def s_ltoShardS : Sig := ⟨[.rd false [.sl (.own none) [.d, .d, .sl (.own none) [.d, .d, .d, .d], .d, .d, .sl (.own none) [.d, .d], .sl (.own none) [.d]]]], (.one false [.sl (.own none) [.d, .d, .sl (.own none) [.d, .d, .d, .d], .d, .d, .sl (.own none) [.d, .d], .sl (.own none) [.d]]])⟩
noncomputable def E_ltoShardS : TEnv := envOf [(133, p_ltoShard)]
noncomputable def f_ltoShardS (n : Nat) : (List (Int × Int × List (Int × Int × Int × Bool) × Int × Bool × List (Int × Int) × List (Int))) → Option ((List (Int × Int × List (Int × Int × Int × Bool) × Int × Bool × List (Int × Int) × List (Int))) × Unit) := runFn n E_ltoShardS c_ltoShardS [[.sl [.i .i64, .i .i64, .sl [.i .i64, .i .i64, .i .i64, .b], .i .i64, .b, .sl [.i .i64, .i .i64], .sl [.i .i64]]]] [.sl [.i .i64, .i .i64, .sl [.i .i64, .i .i64, .i .i64, .b], .i .i64, .b, .sl [.i .i64, .i .i64], .sl [.i .i64]]] [] [2] .no
noncomputable def g_ltoShardS := f_ltoShardS BIG
noncomputable def p_ltoShardS : TSp := ⟨s_ltoShardS, [[.sl [.i .i64, .i .i64, .sl [.i .i64, .i .i64, .i .i64, .b], .i .i64, .b, .sl [.i .i64, .i .i64], .sl [.i .i64]]]], [.sl [.i .i64, .i .i64, .sl [.i .i64, .i .i64, .i .i64, .b], .i .i64, .b, .sl [.i .i64, .i .i64], .sl [.i .i64]]], [], Ou.j .no, g_ltoShardS⟩
theorem k_ltoShardS : chkW PG E_ltoShardS 63 s_ltoShardS (c_ltoShardS.ht 23) .no = some (c_ltoShardS.wc E_ltoShardS, [2]) := by kernel_rfl
theorem ok_ltoShardS : p_ltoShardS.Ok PG 63 := mkOk (env_cons ok_ltoShard (env_nil PG)) k_ltoShardS (by kernel_rfl)
theorem e_ltoShardS (n : Nat) (a0 : List (Int × Int × (List (Int × Int × Int × Bool)) × Int × Bool × (List (Int × Int)) × (List (Int)))) : f_ltoShardS n a0 =
  bif decide (0 ≤ (a0.length : Int)) then
   bif decide ((Int.toNat (a0.length : Int)) ≤ 4294967296) then
    Option.bind (loopT n (X := (List (Int × Int × (List (Int × Int × Int × Bool)) × Int × Bool × (List (Int × Int)) × (List (Int)))) × Int) (B := (List (Int × Int × (List (Int × Int × Int × Bool)) × Int × Bool × (List (Int × Int)) × (List (Int))))) (fun self1 x0 =>
      bif decide (x0.2 < (a0.length : Int)) then
       bnd a0.length x0.2 fun n2 =>
       Option.bind a0[n2]? fun y3 =>
       Option.bind (g_ltoShard y3) fun r4 =>
       bnd x0.1.length x0.2 fun n5 =>
       Option.bind x0.1[n5]? fun y6 =>
       self1 (x0.1.set n5 r4.1, IntKind.wrap .i64 (x0.2 + (1 : Int)))
      else some x0.1) (List.replicate (Int.toNat (a0.length : Int)) ((0 : Int), (0 : Int), [], (0 : Int), false, [], []), (0 : Int)) : Option ((List (Int × Int × (List (Int × Int × Int × Bool)) × Int × Bool × (List (Int × Int)) × (List (Int)))))) fun x7 =>
    some (x7, ())
   else none
  else none := by kernel_rfl
def c_ltoFile : TC :=
 (.seq (.rg [o1 1 (.a (.t 0)),
   ⟨false, [], [], .det 2 (.a (.c [.s, .s, .i .i64] [.string ⟨#[]⟩, .string ⟨#[]⟩, .int .i64 (0)])), [2, 1000000001], (some 2), none⟩])
 (.seq (.rg [⟨false, [], [], .det 2 (.a (.c [.s, .s, .i .i64] [.string ⟨#[]⟩, .string ⟨#[]⟩, .int .i64 (0)])), [3, 1000000001], (some 3), none⟩])
 (.seq (.rg [o1 4 (.idx .nil),
   o1 5 (.load 1 [] 0 (.t 4) 1 false),
   o1 6 (.idx .nil),
   o4 1 [3] (.store 3 [] 0 (.t 6) (.t 5))])
 (.seq (.rg [o1 7 (.idx .nil),
   o1 8 (.load 1 [] 1 (.t 7) 1 false),
   o1 9 (.idx .nil),
   o4 1 [3] (.store 3 [] 1 (.t 9) (.t 8))])
 (.seq (.rg [o1 10 (.idx .nil),
   o1 11 (.load 1 [] 2 (.t 10) 1 false),
   o1 12 (.idx .nil),
   o4 1 [3] (.store 3 [] 2 (.t 12) (.t 11))])
 (.seq (.rg [o1 13 (.load 3 [] 0 .nil 3 false),
   o4 1 [2] (.store 2 [] 0 .nil (.t 13))])
 .ret))))))
def s_ltoFile : Sig := ⟨[.rd true [.d, .d, .d]], (.one true [.d, .d, .d])⟩
noncomputable def E_ltoFile : TEnv := envOf []
noncomputable def f_ltoFile (n : Nat) : (ByteArray × ByteArray × Int) → Option ((ByteArray × ByteArray × Int) × Unit) := runFn n E_ltoFile c_ltoFile [[.s, .s, .i .i64]] [.s, .s, .i .i64] [] [2] .no
noncomputable def g_ltoFile := f_ltoFile BIG
noncomputable def p_ltoFile : TSp := ⟨s_ltoFile, [[.s, .s, .i .i64]], [.s, .s, .i .i64], [], Ou.j .no, g_ltoFile⟩
theorem k_ltoFile : chkW PG E_ltoFile 193 s_ltoFile (c_ltoFile.ht 14) .no = some (c_ltoFile.wc E_ltoFile, [2]) := by kernel_rfl
theorem ok_ltoFile : p_ltoFile.Ok PG 193 := mkOk (env_nil PG) k_ltoFile (by kernel_rfl)
theorem e_ltoFile (n : Nat) (a0 : ByteArray × ByteArray × Int) : f_ltoFile n a0 =
  some (a0, ()) := by kernel_rfl
def c_ltoFileS : TC :=
 (.seq (.rg [o1 2 (.lit [.sl [.s, .s, .i .i64]] [.slice none 0 0])])
 (.seq (.rg [o1 5 (.copy 0),
   o1 6 (.len 5),
   o1 7 (.make (.t 6) [.s, .s, .i .i64]),
   ⟨false, [], [], .det 2 (.copy 7), [3, 7], (some 3), none⟩])
 (.seq (.join [⟨3, [.sl [.s, .s, .i .i64]], false⟩] 4194072 none (.seq (.rg [o1 4 (.lit [.i .i64] [.int .i64 (0)])])
 (.block 0 (.loop [⟨3, [.sl [.s, .s, .i .i64]], false⟩, ⟨4, [.i .i64], false⟩] 4194072
  (.seq (.seq (.rg [o1 8 (.copy 4),
    o1 9 (.copy 0),
    o1 10 (.len 9),
    o1 11 (.data (.bin .lss) [.t 8, .t 10])])
  (.cond (.t 11)
   .skip
   (.exit 0)))
  (.seq (.block 1 (.rg [⟨true, [], [], .det 1 (.copy 3), [14], (some 14), none⟩,
    o1 15 (.copy 4),
    o1 16 (.copy 0),
    o1 17 (.copy 4),
    o1 18 (.index 16 (.t 17)),
    o1 19 (.load 16 [(0, 3)] 0 (.t 18) 3 false),
    o3 20 193 [.t 19],
    o1 21 (.index 14 (.t 15)),
    o4 1 [3, 14] (.store 3 [(0, 3)] 0 (.t 21) (.t 20))]))
  (.rg [o1 12 (.copy 4),
    o1 13 (.data (.bin .add) [.t 12, .c (.int .i64 (1))]),
    o1 4 (.copy 13)])))))))
 (.seq (.rg [⟨false, [], [], .det 2 (.copy 3), [22, 3], (some 22), none⟩,
   ⟨false, [], [], .det 2 (.copy 22), [2, 22], (some 2), none⟩])
 .ret))))
def s_ltoFileS : Sig := ⟨[.rd false [.sl (.own none) [.d, .d, .d]]], (.one false [.sl (.own none) [.d, .d, .d]])⟩
noncomputable def E_ltoFileS : TEnv := envOf [(193, p_ltoFile)]
noncomputable def f_ltoFileS (n : Nat) : (List (ByteArray × ByteArray × Int)) → Option ((List (ByteArray × ByteArray × Int)) × Unit) := runFn n E_ltoFileS c_ltoFileS [[.sl [.s, .s, .i .i64]]] [.sl [.s, .s, .i .i64]] [] [2] .no
noncomputable def g_ltoFileS := f_ltoFileS BIG
noncomputable def p_ltoFileS : TSp := ⟨s_ltoFileS, [[.sl [.s, .s, .i .i64]]], [.sl [.s, .s, .i .i64]], [], Ou.j .no, g_ltoFileS⟩
theorem k_ltoFileS : chkW PG E_ltoFileS 175 s_ltoFileS (c_ltoFileS.ht 23) .no = some (c_ltoFileS.wc E_ltoFileS, [2]) := by kernel_rfl
theorem ok_ltoFileS : p_ltoFileS.Ok PG 175 := mkOk (env_cons ok_ltoFile (env_nil PG)) k_ltoFileS (by kernel_rfl)
theorem e_ltoFileS (n : Nat) (a0 : List (ByteArray × ByteArray × Int)) : f_ltoFileS n a0 =
  bif decide (0 ≤ (a0.length : Int)) then
   bif decide ((Int.toNat (a0.length : Int)) ≤ 4294967296) then
    Option.bind (loopT n (X := (List (ByteArray × ByteArray × Int)) × Int) (B := (List (ByteArray × ByteArray × Int))) (fun self1 x0 =>
      bif decide (x0.2 < (a0.length : Int)) then
       bnd a0.length x0.2 fun n2 =>
       Option.bind a0[n2]? fun y3 =>
       Option.bind (g_ltoFile y3) fun r4 =>
       bnd x0.1.length x0.2 fun n5 =>
       Option.bind x0.1[n5]? fun y6 =>
       self1 (x0.1.set n5 r4.1, IntKind.wrap .i64 (x0.2 + (1 : Int)))
      else some x0.1) (List.replicate (Int.toNat (a0.length : Int)) (ByteArray.empty, ByteArray.empty, (0 : Int)), (0 : Int)) : Option ((List (ByteArray × ByteArray × Int)))) fun x7 =>
    some (x7, ())
   else none
  else none := by kernel_rfl
def c_ltoDisk : TC :=
 (.seq (.rg [o1 1 (.a (.t 0)),
   ⟨false, [], [], .det 2 (.a (.c [.sl [.s, .s, .i .i64]] [.slice none 0 0])), [2, 1000000001], (some 2), none⟩])
 (.seq (.rg [⟨false, [], [], .det 2 (.a (.c [.sl [.s, .s, .i .i64]] [.slice none 0 0])), [3, 1000000001], (some 3), none⟩])
 (.seq (.rg [o1 4 (.idx .nil),
   o1 5 (.load 1 [] 0 (.t 4) 1 false),
   o3 6 175 [.t 5],
   o1 7 (.idx .nil),
   o4 2 [3, 6] (.store 3 [] 0 (.t 7) (.t 6))])
 (.seq (.rg [o1 8 (.load 3 [] 0 .nil 1 true),
   ⟨false, [8], [], .det 2 (.store 2 [] 0 .nil (.t 8)), [2, 8, 8, 3], none, none⟩])
 .ret))))
def s_ltoDisk : Sig := ⟨[.rd true [.sl (.own none) [.d, .d, .d]]], (.one true [.sl (.own none) [.d, .d, .d]])⟩
noncomputable def E_ltoDisk : TEnv := envOf [(175, p_ltoFileS)]
noncomputable def f_ltoDisk (n : Nat) : (List (ByteArray × ByteArray × Int)) → Option ((List (ByteArray × ByteArray × Int)) × Unit) := runFn n E_ltoDisk c_ltoDisk [[.sl [.s, .s, .i .i64]]] [.sl [.s, .s, .i .i64]] [] [2] .no
noncomputable def g_ltoDisk := f_ltoDisk BIG
noncomputable def p_ltoDisk : TSp := ⟨s_ltoDisk, [[.sl [.s, .s, .i .i64]]], [.sl [.s, .s, .i .i64]], [], Ou.j .no, g_ltoDisk⟩
theorem k_ltoDisk : chkW PG E_ltoDisk 134 s_ltoDisk (c_ltoDisk.ht 9) .no = some (c_ltoDisk.wc E_ltoDisk, [2]) := by kernel_rfl
theorem ok_ltoDisk : p_ltoDisk.Ok PG 134 := mkOk (env_cons ok_ltoFileS (env_nil PG)) k_ltoDisk (by kernel_rfl)
theorem e_ltoDisk (n : Nat) (a0 : List (ByteArray × ByteArray × Int)) : f_ltoDisk n a0 =
  Option.bind (g_ltoFileS a0) fun r0 =>
  some (r0.1, ()) := by kernel_rfl
def c_ltoDiskS : TC :=
 (.seq (.rg [o1 2 (.lit [.sl [.sl [.s, .s, .i .i64]]] [.slice none 0 0])])
 (.seq (.rg [o1 5 (.copy 0),
   o1 6 (.len 5),
   o1 7 (.make (.t 6) [.sl [.s, .s, .i .i64]]),
   ⟨false, [], [], .det 2 (.copy 7), [3, 7], (some 3), none⟩])
 (.seq (.join [⟨3, [.sl [.sl [.s, .s, .i .i64]]], false⟩] 4194072 none (.seq (.rg [o1 4 (.lit [.i .i64] [.int .i64 (0)])])
 (.block 0 (.loop [⟨3, [.sl [.sl [.s, .s, .i .i64]]], false⟩, ⟨4, [.i .i64], false⟩] 4194072
  (.seq (.seq (.rg [o1 8 (.copy 4),
    o1 9 (.copy 0),
    o1 10 (.len 9),
    o1 11 (.data (.bin .lss) [.t 8, .t 10])])
  (.cond (.t 11)
   .skip
   (.exit 0)))
  (.seq (.block 1 (.rg [⟨true, [], [], .det 1 (.copy 3), [14], (some 14), none⟩,
    o1 15 (.copy 4),
    o1 16 (.copy 0),
    o1 17 (.copy 4),
    o1 18 (.index 16 (.t 17)),
    o1 19 (.load 16 [(0, 1)] 0 (.t 18) 1 false),
    o3 20 134 [.t 19],
    o1 21 (.index 14 (.t 15)),
    o4 2 [3, 20, 21, 14] (.store 3 [(0, 1)] 0 (.t 21) (.t 20))]))
  (.rg [o1 12 (.copy 4),
    o1 13 (.data (.bin .add) [.t 12, .c (.int .i64 (1))]),
    o1 4 (.copy 13)])))))))
 (.seq (.rg [⟨false, [], [], .det 2 (.copy 3), [22, 3], (some 22), none⟩,
   ⟨false, [], [], .det 2 (.copy 22), [2, 22], (some 2), none⟩])
 .ret))))
def s_ltoDiskS : Sig := ⟨[.rd false [.sl (.own none) [.sl (.own none) [.d, .d, .d]]]], (.one false [.sl (.own none) [.sl (.own none) [.d, .d, .d]]])⟩
noncomputable def E_ltoDiskS : TEnv := envOf [(134, p_ltoDisk)]
noncomputable def f_ltoDiskS (n : Nat) : (List (List (ByteArray × ByteArray × Int))) → Option ((List (List (ByteArray × ByteArray × Int))) × Unit) := runFn n E_ltoDiskS c_ltoDiskS [[.sl [.sl [.s, .s, .i .i64]]]] [.sl [.sl [.s, .s, .i .i64]]] [] [2] .no
noncomputable def g_ltoDiskS := f_ltoDiskS BIG
noncomputable def p_ltoDiskS : TSp := ⟨s_ltoDiskS, [[.sl [.sl [.s, .s, .i .i64]]]], [.sl [.sl [.s, .s, .i .i64]]], [], Ou.j .no, g_ltoDiskS⟩
theorem k_ltoDiskS : chkW PG E_ltoDiskS 64 s_ltoDiskS (c_ltoDiskS.ht 23) .no = some (c_ltoDiskS.wc E_ltoDiskS, [2]) := by kernel_rfl
theorem ok_ltoDiskS : p_ltoDiskS.Ok PG 64 := mkOk (env_cons ok_ltoDisk (env_nil PG)) k_ltoDiskS (by kernel_rfl)
theorem e_ltoDiskS (n : Nat) (a0 : List ((List (ByteArray × ByteArray × Int)))) : f_ltoDiskS n a0 =
  bif decide (0 ≤ (a0.length : Int)) then
   bif decide ((Int.toNat (a0.length : Int)) ≤ 4294967296) then
    Option.bind (loopT n (X := (List ((List (ByteArray × ByteArray × Int)))) × Int) (B := (List ((List (ByteArray × ByteArray × Int))))) (fun self1 x0 =>
      bif decide (x0.2 < (a0.length : Int)) then
       bnd a0.length x0.2 fun n2 =>
       Option.bind a0[n2]? fun y3 =>
       Option.bind (g_ltoDisk y3) fun r4 =>
       bnd x0.1.length x0.2 fun n5 =>
       Option.bind x0.1[n5]? fun y6 =>
       self1 (x0.1.set n5 r4.1, IntKind.wrap .i64 (x0.2 + (1 : Int)))
      else some x0.1) (List.replicate (Int.toNat (a0.length : Int)) [], (0 : Int)) : Option ((List ((List (ByteArray × ByteArray × Int)))))) fun x7 =>
    some (x7, ())
   else none
  else none := by kernel_rfl
def c_ltoBoolS : TC :=
 (.seq (.rg [o1 2 (.lit [.sl [.b]] [.slice none 0 0])])
 (.seq (.rg [o1 5 (.copy 0),
   o1 6 (.len 5),
   o1 7 (.make (.t 6) [.b]),
   ⟨false, [], [], .det 2 (.copy 7), [3, 7], (some 3), none⟩])
 (.seq (.join [⟨3, [.sl [.b]], false⟩] 2096920 none (.seq (.rg [o1 4 (.lit [.i .i64] [.int .i64 (0)])])
 (.block 0 (.loop [⟨3, [.sl [.b]], false⟩, ⟨4, [.i .i64], false⟩] 2096920
  (.seq (.seq (.rg [o1 8 (.copy 4),
    o1 9 (.copy 0),
    o1 10 (.len 9),
    o1 11 (.data (.bin .lss) [.t 8, .t 10])])
  (.cond (.t 11)
   .skip
   (.exit 0)))
  (.seq (.block 1 (.rg [⟨true, [], [], .det 1 (.copy 3), [14], (some 14), none⟩,
    o1 15 (.copy 4),
    o1 16 (.copy 0),
    o1 17 (.copy 4),
    o1 18 (.index 16 (.t 17)),
    o1 19 (.load 16 [(0, 1)] 0 (.t 18) 1 false),
    o1 20 (.index 14 (.t 15)),
    o4 1 [3, 14] (.store 3 [(0, 1)] 0 (.t 20) (.t 19))]))
  (.rg [o1 12 (.copy 4),
    o1 13 (.data (.bin .add) [.t 12, .c (.int .i64 (1))]),
    o1 4 (.copy 13)])))))))
 (.seq (.rg [⟨false, [], [], .det 2 (.copy 3), [21, 3], (some 21), none⟩,
   ⟨false, [], [], .det 2 (.copy 21), [2, 21], (some 2), none⟩])
 .ret))))
def s_ltoBoolS : Sig := ⟨[.rd false [.sl (.own none) [.d]]], (.one false [.sl (.own none) [.d]])⟩
noncomputable def E_ltoBoolS : TEnv := envOf []
noncomputable def f_ltoBoolS (n : Nat) : List (Bool) → Option ((List (Bool)) × Unit) := runFn n E_ltoBoolS c_ltoBoolS [[.sl [.b]]] [.sl [.b]] [] [2] .no
noncomputable def g_ltoBoolS := f_ltoBoolS BIG
noncomputable def p_ltoBoolS : TSp := ⟨s_ltoBoolS, [[.sl [.b]]], [.sl [.b]], [], Ou.j .no, g_ltoBoolS⟩
theorem k_ltoBoolS : chkW PG E_ltoBoolS 65 s_ltoBoolS (c_ltoBoolS.ht 22) .no = some (c_ltoBoolS.wc E_ltoBoolS, [2]) := by kernel_rfl
theorem ok_ltoBoolS : p_ltoBoolS.Ok PG 65 := mkOk (env_nil PG) k_ltoBoolS (by kernel_rfl)
theorem e_ltoBoolS (n : Nat) (a0 : List (Bool)) : f_ltoBoolS n a0 =
  bif decide (0 ≤ (a0.length : Int)) then
   bif decide ((Int.toNat (a0.length : Int)) ≤ 4294967296) then
    Option.bind (loopT n (X := (List (Bool)) × Int) (B := (List (Bool))) (fun self1 x0 =>
      bif decide (x0.2 < (a0.length : Int)) then
       bnd a0.length x0.2 fun n2 =>
       Option.bind a0[n2]? fun y3 =>
       bnd x0.1.length x0.2 fun n4 =>
       Option.bind x0.1[n4]? fun y5 =>
       self1 (x0.1.set n4 y3, IntKind.wrap .i64 (x0.2 + (1 : Int)))
      else some x0.1) (List.replicate (Int.toNat (a0.length : Int)) false, (0 : Int)) : Option ((List (Bool)))) fun x6 =>
    some (x6, ())
   else none
  else none := by kernel_rfl
def c_ltoPacket : TC :=
 (.seq (.rg [o1 1 (.a (.t 0)),
   ⟨false, [], [], .det 2 (.a (.c [.i .i64, .i .i64, .s] [.int .i64 (0), .int .i64 (0), .string ⟨#[]⟩])), [2, 1000000001], (some 2), none⟩])
 (.seq (.rg [⟨false, [], [], .det 2 (.a (.c [.i .i64, .i .i64, .s] [.int .i64 (0), .int .i64 (0), .string ⟨#[]⟩])), [3, 1000000001], (some 3), none⟩])
 (.seq (.rg [o1 4 (.idx .nil),
   o1 5 (.load 1 [] 0 (.t 4) 1 false),
   o1 6 (.idx .nil),
   o4 1 [3] (.store 3 [] 0 (.t 6) (.t 5))])
 (.seq (.rg [o1 7 (.idx .nil),
   o1 8 (.load 1 [] 1 (.t 7) 1 false),
   o1 9 (.idx .nil),
   o4 1 [3] (.store 3 [] 1 (.t 9) (.t 8))])
 (.seq (.rg [o1 10 (.idx .nil),
   o1 11 (.load 1 [] 2 (.t 10) 1 false),
   o1 12 (.idx .nil),
   o4 1 [3] (.store 3 [] 2 (.t 12) (.t 11))])
 (.seq (.rg [o1 13 (.load 3 [] 0 .nil 3 false),
   o4 1 [2] (.store 2 [] 0 .nil (.t 13))])
 .ret))))))
def s_ltoPacket : Sig := ⟨[.rd true [.d, .d, .d]], (.one true [.d, .d, .d])⟩
noncomputable def E_ltoPacket : TEnv := envOf []
noncomputable def f_ltoPacket (n : Nat) : (Int × Int × ByteArray) → Option ((Int × Int × ByteArray) × Unit) := runFn n E_ltoPacket c_ltoPacket [[.i .i64, .i .i64, .s]] [.i .i64, .i .i64, .s] [] [2] .no
noncomputable def g_ltoPacket := f_ltoPacket BIG
noncomputable def p_ltoPacket : TSp := ⟨s_ltoPacket, [[.i .i64, .i .i64, .s]], [.i .i64, .i .i64, .s], [], Ou.j .no, g_ltoPacket⟩
theorem k_ltoPacket : chkW PG E_ltoPacket 135 s_ltoPacket (c_ltoPacket.ht 14) .no = some (c_ltoPacket.wc E_ltoPacket, [2]) := by kernel_rfl
theorem ok_ltoPacket : p_ltoPacket.Ok PG 135 := mkOk (env_nil PG) k_ltoPacket (by kernel_rfl)
theorem e_ltoPacket (n : Nat) (a0 : Int × Int × ByteArray) : f_ltoPacket n a0 =
  some (a0, ()) := by kernel_rfl
def c_ltoPacketS : TC :=
 (.seq (.rg [o1 2 (.lit [.sl [.i .i64, .i .i64, .s]] [.slice none 0 0])])
 (.seq (.rg [o1 5 (.copy 0),
   o1 6 (.len 5),
   o1 7 (.make (.t 6) [.i .i64, .i .i64, .s]),
   ⟨false, [], [], .det 2 (.copy 7), [3, 7], (some 3), none⟩])
 (.seq (.join [⟨3, [.sl [.i .i64, .i .i64, .s]], false⟩] 4194072 none (.seq (.rg [o1 4 (.lit [.i .i64] [.int .i64 (0)])])
 (.block 0 (.loop [⟨3, [.sl [.i .i64, .i .i64, .s]], false⟩, ⟨4, [.i .i64], false⟩] 4194072
  (.seq (.seq (.rg [o1 8 (.copy 4),
    o1 9 (.copy 0),
    o1 10 (.len 9),
    o1 11 (.data (.bin .lss) [.t 8, .t 10])])
  (.cond (.t 11)
   .skip
   (.exit 0)))
  (.seq (.block 1 (.rg [⟨true, [], [], .det 1 (.copy 3), [14], (some 14), none⟩,
    o1 15 (.copy 4),
    o1 16 (.copy 0),
    o1 17 (.copy 4),
    o1 18 (.index 16 (.t 17)),
    o1 19 (.load 16 [(0, 3)] 0 (.t 18) 3 false),
    o3 20 135 [.t 19],
    o1 21 (.index 14 (.t 15)),
    o4 1 [3, 14] (.store 3 [(0, 3)] 0 (.t 21) (.t 20))]))
  (.rg [o1 12 (.copy 4),
    o1 13 (.data (.bin .add) [.t 12, .c (.int .i64 (1))]),
    o1 4 (.copy 13)])))))))
 (.seq (.rg [⟨false, [], [], .det 2 (.copy 3), [22, 3], (some 22), none⟩,
   ⟨false, [], [], .det 2 (.copy 22), [2, 22], (some 2), none⟩])
 .ret))))
def s_ltoPacketS : Sig := ⟨[.rd false [.sl (.own none) [.d, .d, .d]]], (.one false [.sl (.own none) [.d, .d, .d]])⟩
noncomputable def E_ltoPacketS : TEnv := envOf [(135, p_ltoPacket)]
noncomputable def f_ltoPacketS (n : Nat) : (List (Int × Int × ByteArray)) → Option ((List (Int × Int × ByteArray)) × Unit) := runFn n E_ltoPacketS c_ltoPacketS [[.sl [.i .i64, .i .i64, .s]]] [.sl [.i .i64, .i .i64, .s]] [] [2] .no
noncomputable def g_ltoPacketS := f_ltoPacketS BIG
noncomputable def p_ltoPacketS : TSp := ⟨s_ltoPacketS, [[.sl [.i .i64, .i .i64, .s]]], [.sl [.i .i64, .i .i64, .s]], [], Ou.j .no, g_ltoPacketS⟩
theorem k_ltoPacketS : chkW PG E_ltoPacketS 66 s_ltoPacketS (c_ltoPacketS.ht 23) .no = some (c_ltoPacketS.wc E_ltoPacketS, [2]) := by kernel_rfl
theorem ok_ltoPacketS : p_ltoPacketS.Ok PG 66 := mkOk (env_cons ok_ltoPacket (env_nil PG)) k_ltoPacketS (by kernel_rfl)
theorem e_ltoPacketS (n : Nat) (a0 : List (Int × Int × ByteArray)) : f_ltoPacketS n a0 =
  bif decide (0 ≤ (a0.length : Int)) then
   bif decide ((Int.toNat (a0.length : Int)) ≤ 4294967296) then
    Option.bind (loopT n (X := (List (Int × Int × ByteArray)) × Int) (B := (List (Int × Int × ByteArray))) (fun self1 x0 =>
      bif decide (x0.2 < (a0.length : Int)) then
       bnd a0.length x0.2 fun n2 =>
       Option.bind a0[n2]? fun y3 =>
       Option.bind (g_ltoPacket y3) fun r4 =>
       bnd x0.1.length x0.2 fun n5 =>
       Option.bind x0.1[n5]? fun y6 =>
       self1 (x0.1.set n5 r4.1, IntKind.wrap .i64 (x0.2 + (1 : Int)))
      else some x0.1) (List.replicate (Int.toNat (a0.length : Int)) ((0 : Int), (0 : Int), ByteArray.empty), (0 : Int)) : Option ((List (Int × Int × ByteArray)))) fun x7 =>
    some (x7, ())
   else none
  else none := by kernel_rfl
def c_ltoCall : TC :=
 (.seq (.rg [o1 1 (.a (.t 0)),
   ⟨false, [], [], .det 2 (.a (.c [.i .i64, .i .i64, .i .i64, .i .i64, .i .i64, .i .i64, .i .i64] [.int .i64 (0), .int .i64 (0), .int .i64 (0), .int .i64 (0), .int .i64 (0), .int .i64 (0), .int .i64 (0)])), [2, 1000000001], (some 2), none⟩])
 (.seq (.rg [⟨false, [], [], .det 2 (.a (.c [.i .i64, .i .i64, .i .i64, .i .i64, .i .i64, .i .i64, .i .i64] [.int .i64 (0), .int .i64 (0), .int .i64 (0), .int .i64 (0), .int .i64 (0), .int .i64 (0), .int .i64 (0)])), [3, 1000000001], (some 3), none⟩])
 (.seq (.rg [o1 4 (.idx .nil),
   o1 5 (.load 1 [] 0 (.t 4) 4 false),
   o3 6 83 [.t 5],
   o1 7 (.idx .nil),
   o4 1 [3] (.store 3 [] 0 (.t 7) (.t 6))])
 (.seq (.rg [o1 8 (.idx .nil),
   o1 9 (.load 1 [] 4 (.t 8) 1 false),
   o1 10 (.idx .nil),
   o4 1 [3] (.store 3 [] 4 (.t 10) (.t 9))])
 (.seq (.rg [o1 11 (.idx .nil),
   o1 12 (.load 1 [] 5 (.t 11) 1 false),
   o1 13 (.idx .nil),
   o4 1 [3] (.store 3 [] 5 (.t 13) (.t 12))])
 (.seq (.rg [o1 14 (.idx .nil),
   o1 15 (.load 1 [] 6 (.t 14) 1 false),
   o1 16 (.idx .nil),
   o4 1 [3] (.store 3 [] 6 (.t 16) (.t 15))])
 (.seq (.rg [o1 17 (.load 3 [] 0 .nil 7 false),
   o4 1 [2] (.store 2 [] 0 .nil (.t 17))])
 .ret)))))))
def s_ltoCall : Sig := ⟨[.rd true [.d, .d, .d, .d, .d, .d, .d]], (.one true [.d, .d, .d, .d, .d, .d, .d])⟩
noncomputable def E_ltoCall : TEnv := envOf [(83, p_ltoAsk)]
noncomputable def f_ltoCall (n : Nat) : (Int × Int × Int × Int × Int × Int × Int) → Option ((Int × Int × Int × Int × Int × Int × Int) × Unit) := runFn n E_ltoCall c_ltoCall [[.i .i64, .i .i64, .i .i64, .i .i64, .i .i64, .i .i64, .i .i64]] [.i .i64, .i .i64, .i .i64, .i .i64, .i .i64, .i .i64, .i .i64] [] [2] .no
noncomputable def g_ltoCall := f_ltoCall BIG
noncomputable def p_ltoCall : TSp := ⟨s_ltoCall, [[.i .i64, .i .i64, .i .i64, .i .i64, .i .i64, .i .i64, .i .i64]], [.i .i64, .i .i64, .i .i64, .i .i64, .i .i64, .i .i64, .i .i64], [], Ou.j .no, g_ltoCall⟩
theorem k_ltoCall : chkW PG E_ltoCall 136 s_ltoCall (c_ltoCall.ht 18) .no = some (c_ltoCall.wc E_ltoCall, [2]) := by kernel_rfl
theorem ok_ltoCall : p_ltoCall.Ok PG 136 := mkOk (env_cons ok_ltoAsk (env_nil PG)) k_ltoCall (by kernel_rfl)
theorem e_ltoCall (n : Nat) (a0 : Int × Int × Int × Int × Int × Int × Int) : f_ltoCall n a0 =
  Option.bind (g_ltoAsk (a0.1, a0.2.1, a0.2.2.1, a0.2.2.2.1)) fun r0 =>
  some ((r0.1.1, r0.1.2.1, r0.1.2.2.1, r0.1.2.2.2, a0.2.2.2.2), ()) := by kernel_rfl
def c_ltoCallS : TC :=
 (.seq (.rg [o1 2 (.lit [.sl [.i .i64, .i .i64, .i .i64, .i .i64, .i .i64, .i .i64, .i .i64]] [.slice none 0 0])])
 (.seq (.rg [o1 5 (.copy 0),
   o1 6 (.len 5),
   o1 7 (.make (.t 6) [.i .i64, .i .i64, .i .i64, .i .i64, .i .i64, .i .i64, .i .i64]),
   ⟨false, [], [], .det 2 (.copy 7), [3, 7], (some 3), none⟩])
 (.seq (.join [⟨3, [.sl [.i .i64, .i .i64, .i .i64, .i .i64, .i .i64, .i .i64, .i .i64]], false⟩] 4194072 none (.seq (.rg [o1 4 (.lit [.i .i64] [.int .i64 (0)])])
 (.block 0 (.loop [⟨3, [.sl [.i .i64, .i .i64, .i .i64, .i .i64, .i .i64, .i .i64, .i .i64]], false⟩, ⟨4, [.i .i64], false⟩] 4194072
  (.seq (.seq (.rg [o1 8 (.copy 4),
    o1 9 (.copy 0),
    o1 10 (.len 9),
    o1 11 (.data (.bin .lss) [.t 8, .t 10])])
  (.cond (.t 11)
   .skip
   (.exit 0)))
  (.seq (.block 1 (.rg [⟨true, [], [], .det 1 (.copy 3), [14], (some 14), none⟩,
    o1 15 (.copy 4),
    o1 16 (.copy 0),
    o1 17 (.copy 4),
    o1 18 (.index 16 (.t 17)),
    o1 19 (.load 16 [(0, 7)] 0 (.t 18) 7 false),
    o3 20 136 [.t 19],
    o1 21 (.index 14 (.t 15)),
    o4 1 [3, 14] (.store 3 [(0, 7)] 0 (.t 21) (.t 20))]))
  (.rg [o1 12 (.copy 4),
    o1 13 (.data (.bin .add) [.t 12, .c (.int .i64 (1))]),
    o1 4 (.copy 13)])))))))
 (.seq (.rg [⟨false, [], [], .det 2 (.copy 3), [22, 3], (some 22), none⟩,
   ⟨false, [], [], .det 2 (.copy 22), [2, 22], (some 2), none⟩])
 .ret))))
def s_ltoCallS : Sig := ⟨[.rd false [.sl (.own none) [.d, .d, .d, .d, .d, .d, .d]]], (.one false [.sl (.own none) [.d, .d, .d, .d, .d, .d, .d]])⟩
noncomputable def E_ltoCallS : TEnv := envOf [(136, p_ltoCall)]
noncomputable def f_ltoCallS (n : Nat) : (List (Int × Int × Int × Int × Int × Int × Int)) → Option ((List (Int × Int × Int × Int × Int × Int × Int)) × Unit) := runFn n E_ltoCallS c_ltoCallS [[.sl [.i .i64, .i .i64, .i .i64, .i .i64, .i .i64, .i .i64, .i .i64]]] [.sl [.i .i64, .i .i64, .i .i64, .i .i64, .i .i64, .i .i64, .i .i64]] [] [2] .no
noncomputable def g_ltoCallS := f_ltoCallS BIG
noncomputable def p_ltoCallS : TSp := ⟨s_ltoCallS, [[.sl [.i .i64, .i .i64, .i .i64, .i .i64, .i .i64, .i .i64, .i .i64]]], [.sl [.i .i64, .i .i64, .i .i64, .i .i64, .i .i64, .i .i64, .i .i64]], [], Ou.j .no, g_ltoCallS⟩
theorem k_ltoCallS : chkW PG E_ltoCallS 67 s_ltoCallS (c_ltoCallS.ht 23) .no = some (c_ltoCallS.wc E_ltoCallS, [2]) := by kernel_rfl
theorem ok_ltoCallS : p_ltoCallS.Ok PG 67 := mkOk (env_cons ok_ltoCall (env_nil PG)) k_ltoCallS (by kernel_rfl)
theorem e_ltoCallS (n : Nat) (a0 : List (Int × Int × Int × Int × Int × Int × Int)) : f_ltoCallS n a0 =
  bif decide (0 ≤ (a0.length : Int)) then
   bif decide ((Int.toNat (a0.length : Int)) ≤ 4294967296) then
    Option.bind (loopT n (X := (List (Int × Int × Int × Int × Int × Int × Int)) × Int) (B := (List (Int × Int × Int × Int × Int × Int × Int))) (fun self1 x0 =>
      bif decide (x0.2 < (a0.length : Int)) then
       bnd a0.length x0.2 fun n2 =>
       Option.bind a0[n2]? fun y3 =>
       Option.bind (g_ltoCall y3) fun r4 =>
       bnd x0.1.length x0.2 fun n5 =>
       Option.bind x0.1[n5]? fun y6 =>
       self1 (x0.1.set n5 r4.1, IntKind.wrap .i64 (x0.2 + (1 : Int)))
      else some x0.1) (List.replicate (Int.toNat (a0.length : Int)) ((0 : Int), (0 : Int), (0 : Int), (0 : Int), (0 : Int), (0 : Int), (0 : Int)), (0 : Int)) : Option ((List (Int × Int × Int × Int × Int × Int × Int)))) fun x7 =>
    some (x7, ())
   else none
  else none := by kernel_rfl
def c_ltoRec : TC :=
 (.seq (.rg [o1 1 (.a (.t 0)),
   ⟨false, [], [], .det 2 (.a (.c [.i .i64, .i .i64, .i .i64, .i .i64, .i .i64, .i .i64, .i .i64, .b, .sl [.i .i64, .i .i64], .sl [.i .i64], .i .i64, .i .i64, .sl [.i .i64, .i .i64], .i .i64] [.int .i64 (0), .int .i64 (0), .int .i64 (0), .int .i64 (0), .int .i64 (0), .int .i64 (0), .int .i64 (0), .bool false, .slice none 0 0, .slice none 0 0, .int .i64 (0), .int .i64 (0), .slice none 0 0, .int .i64 (0)])), [2, 1000000001], (some 2), none⟩])
 (.seq (.rg [⟨false, [], [], .det 2 (.a (.c [.i .i64, .i .i64, .i .i64, .i .i64, .i .i64, .i .i64, .i .i64, .b, .sl [.i .i64, .i .i64], .sl [.i .i64], .i .i64, .i .i64, .sl [.i .i64, .i .i64], .i .i64] [.int .i64 (0), .int .i64 (0), .int .i64 (0), .int .i64 (0), .int .i64 (0), .int .i64 (0), .int .i64 (0), .bool false, .slice none 0 0, .slice none 0 0, .int .i64 (0), .int .i64 (0), .slice none 0 0, .int .i64 (0)])), [3, 1000000001], (some 3), none⟩])
 (.seq (.rg [o1 4 (.idx .nil),
   o1 5 (.load 1 [] 0 (.t 4) 1 false),
   o1 6 (.idx .nil),
   o4 1 [3] (.store 3 [] 0 (.t 6) (.t 5))])
 (.seq (.rg [o1 7 (.idx .nil),
   o1 8 (.load 1 [] 1 (.t 7) 4 false),
   o3 9 83 [.t 8],
   o1 10 (.idx .nil),
   o4 1 [3] (.store 3 [] 1 (.t 10) (.t 9))])
 (.seq (.rg [o1 11 (.idx .nil),
   o1 12 (.load 1 [] 5 (.t 11) 1 false),
   o1 13 (.idx .nil),
   o4 1 [3] (.store 3 [] 5 (.t 13) (.t 12))])
 (.seq (.rg [o1 14 (.idx .nil),
   o1 15 (.load 1 [] 6 (.t 14) 4 false),
   o3 16 84 [.t 15],
   o1 17 (.idx .nil),
   o4 2 [3, 16] (.store 3 [] 6 (.t 17) (.t 16))])
 (.seq (.rg [o1 18 (.idx .nil),
   o1 19 (.load 1 [] 10 (.t 18) 4 false),
   o3 20 85 [.t 19],
   o1 21 (.idx .nil),
   o4 2 [3, 20] (.store 3 [] 10 (.t 21) (.t 20))])
 (.seq (.rg [o1 22 (.load 3 [] 0 .nil 14 true),
   ⟨false, [22], [], .det 2 (.store 2 [] 0 .nil (.t 22)), [2, 22, 22, 3], none, none⟩])
 .ret))))))))
def s_ltoRec : Sig := ⟨[.rd true [.d, .d, .d, .d, .d, .d, .d, .d, .sl (.own none) [.d, .d], .sl (.own none) [.d], .d, .d, .sl (.own none) [.d, .d], .d]], (.one true [.d, .d, .d, .d, .d, .d, .d, .d, .sl (.own none) [.d, .d], .sl (.own none) [.d], .d, .d, .sl (.own none) [.d, .d], .d])⟩
noncomputable def E_ltoRec : TEnv := envOf [(83, p_ltoAsk), (84, p_ltoAnswer), (85, p_ltoOrder)]
noncomputable def f_ltoRec (n : Nat) : (Int × Int × Int × Int × Int × Int × Int × Bool × List (Int × Int) × List (Int) × Int × Int × List (Int × Int) × Int) → Option ((Int × Int × Int × Int × Int × Int × Int × Bool × List (Int × Int) × List (Int) × Int × Int × List (Int × Int) × Int) × Unit) := runFn n E_ltoRec c_ltoRec [[.i .i64, .i .i64, .i .i64, .i .i64, .i .i64, .i .i64, .i .i64, .b, .sl [.i .i64, .i .i64], .sl [.i .i64], .i .i64, .i .i64, .sl [.i .i64, .i .i64], .i .i64]] [.i .i64, .i .i64, .i .i64, .i .i64, .i .i64, .i .i64, .i .i64, .b, .sl [.i .i64, .i .i64], .sl [.i .i64], .i .i64, .i .i64, .sl [.i .i64, .i .i64], .i .i64] [] [2] .no
noncomputable def g_ltoRec := f_ltoRec BIG
noncomputable def p_ltoRec : TSp := ⟨s_ltoRec, [[.i .i64, .i .i64, .i .i64, .i .i64, .i .i64, .i .i64, .i .i64, .b, .sl [.i .i64, .i .i64], .sl [.i .i64], .i .i64, .i .i64, .sl [.i .i64, .i .i64], .i .i64]], [.i .i64, .i .i64, .i .i64, .i .i64, .i .i64, .i .i64, .i .i64, .b, .sl [.i .i64, .i .i64], .sl [.i .i64], .i .i64, .i .i64, .sl [.i .i64, .i .i64], .i .i64], [], Ou.j .no, g_ltoRec⟩
theorem k_ltoRec : chkW PG E_ltoRec 26 s_ltoRec (c_ltoRec.ht 23) .no = some (c_ltoRec.wc E_ltoRec, [2]) := by kernel_rfl
theorem ok_ltoRec : p_ltoRec.Ok PG 26 := mkOk (env_cons ok_ltoAsk (env_cons ok_ltoAnswer (env_cons ok_ltoOrder (env_nil PG)))) k_ltoRec (by kernel_rfl)
theorem e_ltoRec (n : Nat) (a0 : Int × Int × Int × Int × Int × Int × Int × Bool × List (Int × Int) × List (Int) × Int × Int × List (Int × Int) × Int) : f_ltoRec n a0 =
  Option.bind (g_ltoAsk (a0.2.1, a0.2.2.1, a0.2.2.2.1, a0.2.2.2.2.1)) fun r0 =>
  Option.bind (g_ltoAnswer (a0.2.2.2.2.2.2.1, a0.2.2.2.2.2.2.2.1, a0.2.2.2.2.2.2.2.2.1, a0.2.2.2.2.2.2.2.2.2.1)) fun r1 =>
  Option.bind (g_ltoOrder a0.2.2.2.2.2.2.2.2.2.2) fun r2 =>
  some ((a0.1, r0.1.1, r0.1.2.1, r0.1.2.2.1, r0.1.2.2.2, a0.2.2.2.2.2.1, r1.1.1, r1.1.2.1, r1.1.2.2.1, r1.1.2.2.2, r2.1), ()) := by kernel_rfl
def c_ltoRecS : TC :=
 (.seq (.rg [o1 2 (.lit [.sl [.i .i64, .i .i64, .i .i64, .i .i64, .i .i64, .i .i64, .i .i64, .b, .sl [.i .i64, .i .i64], .sl [.i .i64], .i .i64, .i .i64, .sl [.i .i64, .i .i64], .i .i64]] [.slice none 0 0])])
 (.seq (.rg [o1 5 (.copy 0),
   o1 6 (.len 5),
   o1 7 (.make (.t 6) [.i .i64, .i .i64, .i .i64, .i .i64, .i .i64, .i .i64, .i .i64, .b, .sl [.i .i64, .i .i64], .sl [.i .i64], .i .i64, .i .i64, .sl [.i .i64, .i .i64], .i .i64]),
   ⟨false, [], [], .det 2 (.copy 7), [3, 7], (some 3), none⟩])
 (.seq (.join [⟨3, [.sl [.i .i64, .i .i64, .i .i64, .i .i64, .i .i64, .i .i64, .i .i64, .b, .sl [.i .i64, .i .i64], .sl [.i .i64], .i .i64, .i .i64, .sl [.i .i64, .i .i64], .i .i64]], false⟩] 4194072 none (.seq (.rg [o1 4 (.lit [.i .i64] [.int .i64 (0)])])
 (.block 0 (.loop [⟨3, [.sl [.i .i64, .i .i64, .i .i64, .i .i64, .i .i64, .i .i64, .i .i64, .b, .sl [.i .i64, .i .i64], .sl [.i .i64], .i .i64, .i .i64, .sl [.i .i64, .i .i64], .i .i64]], false⟩, ⟨4, [.i .i64], false⟩] 4194072
  (.seq (.seq (.rg [o1 8 (.copy 4),
    o1 9 (.copy 0),
    o1 10 (.len 9),
    o1 11 (.data (.bin .lss) [.t 8, .t 10])])
  (.cond (.t 11)
   .skip
   (.exit 0)))
  (.seq (.block 1 (.rg [⟨true, [], [], .det 1 (.copy 3), [14], (some 14), none⟩,
    o1 15 (.copy 4),
    o1 16 (.copy 0),
    o1 17 (.copy 4),
    o1 18 (.index 16 (.t 17)),
    o1 19 (.load 16 [(0, 14)] 0 (.t 18) 14 false),
    o3 20 26 [.t 19],
    o1 21 (.index 14 (.t 15)),
    o4 2 [3, 20, 21, 14] (.store 3 [(0, 14)] 0 (.t 21) (.t 20))]))
  (.rg [o1 12 (.copy 4),
    o1 13 (.data (.bin .add) [.t 12, .c (.int .i64 (1))]),
    o1 4 (.copy 13)])))))))
 (.seq (.rg [⟨false, [], [], .det 2 (.copy 3), [22, 3], (some 22), none⟩,
   ⟨false, [], [], .det 2 (.copy 22), [2, 22], (some 2), none⟩])
 .ret))))
def s_ltoRecS : Sig := ⟨[.rd false [.sl (.own none) [.d, .d, .d, .d, .d, .d, .d, .d, .sl (.own none) [.d, .d], .sl (.own none) [.d], .d, .d, .sl (.own none) [.d, .d], .d]]], (.one false [.sl (.own none) [.d, .d, .d, .d, .d, .d, .d, .d, .sl (.own none) [.d, .d], .sl (.own none) [.d], .d, .d, .sl (.own none) [.d, .d], .d]])⟩
noncomputable def E_ltoRecS : TEnv := envOf [(26, p_ltoRec)]
noncomputable def f_ltoRecS (n : Nat) : (List (Int × Int × Int × Int × Int × Int × Int × Bool × List (Int × Int) × List (Int) × Int × Int × List (Int × Int) × Int)) → Option ((List (Int × Int × Int × Int × Int × Int × Int × Bool × List (Int × Int) × List (Int) × Int × Int × List (Int × Int) × Int)) × Unit) := runFn n E_ltoRecS c_ltoRecS [[.sl [.i .i64, .i .i64, .i .i64, .i .i64, .i .i64, .i .i64, .i .i64, .b, .sl [.i .i64, .i .i64], .sl [.i .i64], .i .i64, .i .i64, .sl [.i .i64, .i .i64], .i .i64]]] [.sl [.i .i64, .i .i64, .i .i64, .i .i64, .i .i64, .i .i64, .i .i64, .b, .sl [.i .i64, .i .i64], .sl [.i .i64], .i .i64, .i .i64, .sl [.i .i64, .i .i64], .i .i64]] [] [2] .no
noncomputable def g_ltoRecS := f_ltoRecS BIG
noncomputable def p_ltoRecS : TSp := ⟨s_ltoRecS, [[.sl [.i .i64, .i .i64, .i .i64, .i .i64, .i .i64, .i .i64, .i .i64, .b, .sl [.i .i64, .i .i64], .sl [.i .i64], .i .i64, .i .i64, .sl [.i .i64, .i .i64], .i .i64]]], [.sl [.i .i64, .i .i64, .i .i64, .i .i64, .i .i64, .i .i64, .i .i64, .b, .sl [.i .i64, .i .i64], .sl [.i .i64], .i .i64, .i .i64, .sl [.i .i64, .i .i64], .i .i64]], [], Ou.j .no, g_ltoRecS⟩
theorem k_ltoRecS : chkW PG E_ltoRecS 8 s_ltoRecS (c_ltoRecS.ht 23) .no = some (c_ltoRecS.wc E_ltoRecS, [2]) := by kernel_rfl
theorem ok_ltoRecS : p_ltoRecS.Ok PG 8 := mkOk (env_cons ok_ltoRec (env_nil PG)) k_ltoRecS (by kernel_rfl)
theorem e_ltoRecS (n : Nat) (a0 : List (Int × Int × Int × Int × Int × Int × Int × Bool × (List (Int × Int)) × (List (Int)) × Int × Int × (List (Int × Int)) × Int)) : f_ltoRecS n a0 =
  bif decide (0 ≤ (a0.length : Int)) then
   bif decide ((Int.toNat (a0.length : Int)) ≤ 4294967296) then
    Option.bind (loopT n (X := (List (Int × Int × Int × Int × Int × Int × Int × Bool × (List (Int × Int)) × (List (Int)) × Int × Int × (List (Int × Int)) × Int)) × Int) (B := (List (Int × Int × Int × Int × Int × Int × Int × Bool × (List (Int × Int)) × (List (Int)) × Int × Int × (List (Int × Int)) × Int))) (fun self1 x0 =>
      bif decide (x0.2 < (a0.length : Int)) then
       bnd a0.length x0.2 fun n2 =>
       Option.bind a0[n2]? fun y3 =>
       Option.bind (g_ltoRec y3) fun r4 =>
       bnd x0.1.length x0.2 fun n5 =>
       Option.bind x0.1[n5]? fun y6 =>
       self1 (x0.1.set n5 r4.1, IntKind.wrap .i64 (x0.2 + (1 : Int)))
      else some x0.1) (List.replicate (Int.toNat (a0.length : Int)) ((0 : Int), (0 : Int), (0 : Int), (0 : Int), (0 : Int), (0 : Int), (0 : Int), false, [], [], (0 : Int), (0 : Int), [], (0 : Int)), (0 : Int)) : Option ((List (Int × Int × Int × Int × Int × Int × Int × Bool × (List (Int × Int)) × (List (Int)) × Int × Int × (List (Int × Int)) × Int)))) fun x7 =>
    some (x7, ())
   else none
  else none := by kernel_rfl
def c_ltoWorld : TC :=
 (.seq (.rg [o1 1 (.a (.t 0)),
   ⟨false, [], [], .det 2 (.a (.c [.i .i64, .i .i64, .sl [.i .i64], .sl [.i .i64, .i .i64], .sl [.sl [.i .i64]], .sl [.i .i64], .i .i64, .i .i64, .i .i64, .i .i64, .i .i64, .i .i64, .i .i64, .sl [.i .i64, .i .i64], .i .i64, .sl [.i .i64, .i .i64, .i .i64, .i .i64, .i .i64, .i .i64], .sl [.i .i64, .i .i64, .sl [.i .i64, .i .i64, .i .i64, .b], .i .i64, .b, .sl [.i .i64, .i .i64], .sl [.i .i64]], .sl [.sl [.s, .s, .i .i64]], .sl [.b], .sl [.i .i64, .i .i64, .s], .sl [.i .i64, .i .i64, .i .i64, .i .i64, .i .i64, .i .i64, .i .i64], .sl [.i .i64, .i .i64, .i .i64, .i .i64, .i .i64, .i .i64, .i .i64, .b, .sl [.i .i64, .i .i64], .sl [.i .i64], .i .i64, .i .i64, .sl [.i .i64, .i .i64], .i .i64]] [.int .i64 (0), .int .i64 (0), .slice none 0 0, .slice none 0 0, .slice none 0 0, .slice none 0 0, .int .i64 (0), .int .i64 (0), .int .i64 (0), .int .i64 (0), .int .i64 (0), .int .i64 (0), .int .i64 (0), .slice none 0 0, .int .i64 (0), .slice none 0 0, .slice none 0 0, .slice none 0 0, .slice none 0 0, .slice none 0 0, .slice none 0 0, .slice none 0 0])), [2, 1000000001], (some 2), none⟩])
 (.seq (.rg [⟨false, [], [], .det 2 (.a (.c [.i .i64, .i .i64, .sl [.i .i64], .sl [.i .i64, .i .i64], .sl [.sl [.i .i64]], .sl [.i .i64], .i .i64, .i .i64, .i .i64, .i .i64, .i .i64, .i .i64, .i .i64, .sl [.i .i64, .i .i64], .i .i64, .sl [.i .i64, .i .i64, .i .i64, .i .i64, .i .i64, .i .i64], .sl [.i .i64, .i .i64, .sl [.i .i64, .i .i64, .i .i64, .b], .i .i64, .b, .sl [.i .i64, .i .i64], .sl [.i .i64]], .sl [.sl [.s, .s, .i .i64]], .sl [.b], .sl [.i .i64, .i .i64, .s], .sl [.i .i64, .i .i64, .i .i64, .i .i64, .i .i64, .i .i64, .i .i64], .sl [.i .i64, .i .i64, .i .i64, .i .i64, .i .i64, .i .i64, .i .i64, .b, .sl [.i .i64, .i .i64], .sl [.i .i64], .i .i64, .i .i64, .sl [.i .i64, .i .i64], .i .i64]] [.int .i64 (0), .int .i64 (0), .slice none 0 0, .slice none 0 0, .slice none 0 0, .slice none 0 0, .int .i64 (0), .int .i64 (0), .int .i64 (0), .int .i64 (0), .int .i64 (0), .int .i64 (0), .int .i64 (0), .slice none 0 0, .int .i64 (0), .slice none 0 0, .slice none 0 0, .slice none 0 0, .slice none 0 0, .slice none 0 0, .slice none 0 0, .slice none 0 0])), [3, 1000000001], (some 3), none⟩])
 (.seq (.rg [o1 4 (.idx .nil),
   o1 5 (.load 1 [] 0 (.t 4) 1 false),
   o1 6 (.idx .nil),
   o4 1 [3] (.store 3 [] 0 (.t 6) (.t 5))])
 (.seq (.rg [o1 7 (.idx .nil),
   o1 8 (.load 1 [] 1 (.t 7) 15 false),
   o3 9 62 [.t 8],
   o1 10 (.idx .nil),
   o4 2 [3, 9] (.store 3 [] 1 (.t 10) (.t 9))])
 (.seq (.rg [o1 11 (.idx .nil),
   o1 12 (.load 1 [] 16 (.t 11) 1 false),
   o3 13 63 [.t 12],
   o1 14 (.idx .nil),
   o4 2 [3, 13] (.store 3 [] 16 (.t 14) (.t 13))])
 (.seq (.rg [o1 15 (.idx .nil),
   o1 16 (.load 1 [] 17 (.t 15) 1 false),
   o3 17 64 [.t 16],
   o1 18 (.idx .nil),
   o4 2 [3, 17] (.store 3 [] 17 (.t 18) (.t 17))])
 (.seq (.rg [o1 19 (.idx .nil),
   o1 20 (.load 1 [] 18 (.t 19) 1 false),
   o3 21 65 [.t 20],
   o1 22 (.idx .nil),
   o4 2 [3, 21] (.store 3 [] 18 (.t 22) (.t 21))])
 (.seq (.rg [o1 23 (.idx .nil),
   o1 24 (.load 1 [] 19 (.t 23) 1 false),
   o3 25 66 [.t 24],
   o1 26 (.idx .nil),
   o4 2 [3, 25] (.store 3 [] 19 (.t 26) (.t 25))])
 (.seq (.rg [o1 27 (.idx .nil),
   o1 28 (.load 1 [] 20 (.t 27) 1 false),
   o3 29 67 [.t 28],
   o1 30 (.idx .nil),
   o4 2 [3, 29] (.store 3 [] 20 (.t 30) (.t 29))])
 (.seq (.rg [o1 31 (.idx .nil),
   o1 32 (.load 1 [] 21 (.t 31) 1 false),
   o3 33 8 [.t 32],
   o1 34 (.idx .nil),
   o4 2 [3, 33] (.store 3 [] 21 (.t 34) (.t 33))])
 (.seq (.rg [o1 35 (.load 3 [] 0 .nil 22 true),
   ⟨false, [35], [], .det 2 (.store 2 [] 0 .nil (.t 35)), [2, 35, 35, 3], none, none⟩])
 .ret)))))))))))
def s_ltoWorld : Sig := ⟨[.rd true [.d, .d, .sl (.own none) [.d], .sl (.own none) [.d, .d], .sl (.own none) [.sl (.own none) [.d]], .sl (.own none) [.d], .d, .d, .d, .d, .d, .d, .d, .sl (.own none) [.d, .d], .d, .sl (.own none) [.d, .d, .d, .d, .d, .d], .sl (.own none) [.d, .d, .sl (.own none) [.d, .d, .d, .d], .d, .d, .sl (.own none) [.d, .d], .sl (.own none) [.d]], .sl (.own none) [.sl (.own none) [.d, .d, .d]], .sl (.own none) [.d], .sl (.own none) [.d, .d, .d], .sl (.own none) [.d, .d, .d, .d, .d, .d, .d], .sl (.own none) [.d, .d, .d, .d, .d, .d, .d, .d, .sl (.own none) [.d, .d], .sl (.own none) [.d], .d, .d, .sl (.own none) [.d, .d], .d]]], (.one true [.d, .d, .sl (.own none) [.d], .sl (.own none) [.d, .d], .sl (.own none) [.sl (.own none) [.d]], .sl (.own none) [.d], .d, .d, .d, .d, .d, .d, .d, .sl (.own none) [.d, .d], .d, .sl (.own none) [.d, .d, .d, .d, .d, .d], .sl (.own none) [.d, .d, .sl (.own none) [.d, .d, .d, .d], .d, .d, .sl (.own none) [.d, .d], .sl (.own none) [.d]], .sl (.own none) [.sl (.own none) [.d, .d, .d]], .sl (.own none) [.d], .sl (.own none) [.d, .d, .d], .sl (.own none) [.d, .d, .d, .d, .d, .d, .d], .sl (.own none) [.d, .d, .d, .d, .d, .d, .d, .d, .sl (.own none) [.d, .d], .sl (.own none) [.d], .d, .d, .sl (.own none) [.d, .d], .d]])⟩
noncomputable def E_ltoWorld : TEnv := envOf [(62, p_ltoHead), (63, p_ltoShardS), (64, p_ltoDiskS), (65, p_ltoBoolS), (66, p_ltoPacketS), (67, p_ltoCallS), (8, p_ltoRecS)]
noncomputable def f_ltoWorld (n : Nat) : (Int × Int × List (Int) × List (Int × Int) × List (List (Int)) × List (Int) × Int × Int × Int × Int × Int × Int × Int × List (Int × Int) × Int × List (Int × Int × Int × Int × Int × Int) × List (Int × Int × List (Int × Int × Int × Bool) × Int × Bool × List (Int × Int) × List (Int)) × List (List (ByteArray × ByteArray × Int)) × List (Bool) × List (Int × Int × ByteArray) × List (Int × Int × Int × Int × Int × Int × Int) × List (Int × Int × Int × Int × Int × Int × Int × Bool × List (Int × Int) × List (Int) × Int × Int × List (Int × Int) × Int)) → Option ((Int × Int × List (Int) × List (Int × Int) × List (List (Int)) × List (Int) × Int × Int × Int × Int × Int × Int × Int × List (Int × Int) × Int × List (Int × Int × Int × Int × Int × Int) × List (Int × Int × List (Int × Int × Int × Bool) × Int × Bool × List (Int × Int) × List (Int)) × List (List (ByteArray × ByteArray × Int)) × List (Bool) × List (Int × Int × ByteArray) × List (Int × Int × Int × Int × Int × Int × Int) × List (Int × Int × Int × Int × Int × Int × Int × Bool × List (Int × Int) × List (Int) × Int × Int × List (Int × Int) × Int)) × Unit) := runFn n E_ltoWorld c_ltoWorld [[.i .i64, .i .i64, .sl [.i .i64], .sl [.i .i64, .i .i64], .sl [.sl [.i .i64]], .sl [.i .i64], .i .i64, .i .i64, .i .i64, .i .i64, .i .i64, .i .i64, .i .i64, .sl [.i .i64, .i .i64], .i .i64, .sl [.i .i64, .i .i64, .i .i64, .i .i64, .i .i64, .i .i64], .sl [.i .i64, .i .i64, .sl [.i .i64, .i .i64, .i .i64, .b], .i .i64, .b, .sl [.i .i64, .i .i64], .sl [.i .i64]], .sl [.sl [.s, .s, .i .i64]], .sl [.b], .sl [.i .i64, .i .i64, .s], .sl [.i .i64, .i .i64, .i .i64, .i .i64, .i .i64, .i .i64, .i .i64], .sl [.i .i64, .i .i64, .i .i64, .i .i64, .i .i64, .i .i64, .i .i64, .b, .sl [.i .i64, .i .i64], .sl [.i .i64], .i .i64, .i .i64, .sl [.i .i64, .i .i64], .i .i64]]] [.i .i64, .i .i64, .sl [.i .i64], .sl [.i .i64, .i .i64], .sl [.sl [.i .i64]], .sl [.i .i64], .i .i64, .i .i64, .i .i64, .i .i64, .i .i64, .i .i64, .i .i64, .sl [.i .i64, .i .i64], .i .i64, .sl [.i .i64, .i .i64, .i .i64, .i .i64, .i .i64, .i .i64], .sl [.i .i64, .i .i64, .sl [.i .i64, .i .i64, .i .i64, .b], .i .i64, .b, .sl [.i .i64, .i .i64], .sl [.i .i64]], .sl [.sl [.s, .s, .i .i64]], .sl [.b], .sl [.i .i64, .i .i64, .s], .sl [.i .i64, .i .i64, .i .i64, .i .i64, .i .i64, .i .i64, .i .i64], .sl [.i .i64, .i .i64, .i .i64, .i .i64, .i .i64, .i .i64, .i .i64, .b, .sl [.i .i64, .i .i64], .sl [.i .i64], .i .i64, .i .i64, .sl [.i .i64, .i .i64], .i .i64]] [] [2] .no
noncomputable def g_ltoWorld := f_ltoWorld BIG
noncomputable def p_ltoWorld : TSp := ⟨s_ltoWorld, [[.i .i64, .i .i64, .sl [.i .i64], .sl [.i .i64, .i .i64], .sl [.sl [.i .i64]], .sl [.i .i64], .i .i64, .i .i64, .i .i64, .i .i64, .i .i64, .i .i64, .i .i64, .sl [.i .i64, .i .i64], .i .i64, .sl [.i .i64, .i .i64, .i .i64, .i .i64, .i .i64, .i .i64], .sl [.i .i64, .i .i64, .sl [.i .i64, .i .i64, .i .i64, .b], .i .i64, .b, .sl [.i .i64, .i .i64], .sl [.i .i64]], .sl [.sl [.s, .s, .i .i64]], .sl [.b], .sl [.i .i64, .i .i64, .s], .sl [.i .i64, .i .i64, .i .i64, .i .i64, .i .i64, .i .i64, .i .i64], .sl [.i .i64, .i .i64, .i .i64, .i .i64, .i .i64, .i .i64, .i .i64, .b, .sl [.i .i64, .i .i64], .sl [.i .i64], .i .i64, .i .i64, .sl [.i .i64, .i .i64], .i .i64]]], [.i .i64, .i .i64, .sl [.i .i64], .sl [.i .i64, .i .i64], .sl [.sl [.i .i64]], .sl [.i .i64], .i .i64, .i .i64, .i .i64, .i .i64, .i .i64, .i .i64, .i .i64, .sl [.i .i64, .i .i64], .i .i64, .sl [.i .i64, .i .i64, .i .i64, .i .i64, .i .i64, .i .i64], .sl [.i .i64, .i .i64, .sl [.i .i64, .i .i64, .i .i64, .b], .i .i64, .b, .sl [.i .i64, .i .i64], .sl [.i .i64]], .sl [.sl [.s, .s, .i .i64]], .sl [.b], .sl [.i .i64, .i .i64, .s], .sl [.i .i64, .i .i64, .i .i64, .i .i64, .i .i64, .i .i64, .i .i64], .sl [.i .i64, .i .i64, .i .i64, .i .i64, .i .i64, .i .i64, .i .i64, .b, .sl [.i .i64, .i .i64], .sl [.i .i64], .i .i64, .i .i64, .sl [.i .i64, .i .i64], .i .i64]], [], Ou.j .no, g_ltoWorld⟩
theorem k_ltoWorld : chkW PG E_ltoWorld 22 s_ltoWorld (c_ltoWorld.ht 36) .no = some (c_ltoWorld.wc E_ltoWorld, [2]) := by kernel_rfl
theorem ok_ltoWorld : p_ltoWorld.Ok PG 22 := mkOk (env_cons ok_ltoHead (env_cons ok_ltoShardS (env_cons ok_ltoDiskS (env_cons ok_ltoBoolS (env_cons ok_ltoPacketS (env_cons ok_ltoCallS (env_cons ok_ltoRecS (env_nil PG)))))))) k_ltoWorld (by kernel_rfl)
theorem e_ltoWorld (n : Nat) (a0 : Int × Int × List (Int) × List (Int × Int) × List ((List (Int))) × List (Int) × Int × Int × Int × Int × Int × Int × Int × List (Int × Int) × Int × List (Int × Int × Int × Int × Int × Int) × List (Int × Int × (List (Int × Int × Int × Bool)) × Int × Bool × (List (Int × Int)) × (List (Int))) × List ((List (ByteArray × ByteArray × Int))) × List (Bool) × List (Int × Int × ByteArray) × List (Int × Int × Int × Int × Int × Int × Int) × List (Int × Int × Int × Int × Int × Int × Int × Bool × (List (Int × Int)) × (List (Int)) × Int × Int × (List (Int × Int)) × Int)) : f_ltoWorld n a0 =
  Option.bind (g_ltoHead (a0.2.1, a0.2.2.1, a0.2.2.2.1, a0.2.2.2.2.1, a0.2.2.2.2.2.1, a0.2.2.2.2.2.2.1, a0.2.2.2.2.2.2.2.1, a0.2.2.2.2.2.2.2.2.1, a0.2.2.2.2.2.2.2.2.2.1, a0.2.2.2.2.2.2.2.2.2.2.1, a0.2.2.2.2.2.2.2.2.2.2.2.1, a0.2.2.2.2.2.2.2.2.2.2.2.2.1, a0.2.2.2.2.2.2.2.2.2.2.2.2.2.1, a0.2.2.2.2.2.2.2.2.2.2.2.2.2.2.1, a0.2.2.2.2.2.2.2.2.2.2.2.2.2.2.2.1)) fun r0 =>
  Option.bind (g_ltoShardS a0.2.2.2.2.2.2.2.2.2.2.2.2.2.2.2.2.1) fun r1 =>
  Option.bind (g_ltoDiskS a0.2.2.2.2.2.2.2.2.2.2.2.2.2.2.2.2.2.1) fun r2 =>
  Option.bind (g_ltoBoolS a0.2.2.2.2.2.2.2.2.2.2.2.2.2.2.2.2.2.2.1) fun r3 =>
  Option.bind (g_ltoPacketS a0.2.2.2.2.2.2.2.2.2.2.2.2.2.2.2.2.2.2.2.1) fun r4 =>
  Option.bind (g_ltoCallS a0.2.2.2.2.2.2.2.2.2.2.2.2.2.2.2.2.2.2.2.2.1) fun r5 =>
  Option.bind (g_ltoRecS a0.2.2.2.2.2.2.2.2.2.2.2.2.2.2.2.2.2.2.2.2.2) fun r6 =>
  some ((a0.1, r0.1.1, r0.1.2.1, r0.1.2.2.1, r0.1.2.2.2.1, r0.1.2.2.2.2.1, r0.1.2.2.2.2.2.1, r0.1.2.2.2.2.2.2.1, r0.1.2.2.2.2.2.2.2.1, r0.1.2.2.2.2.2.2.2.2.1, r0.1.2.2.2.2.2.2.2.2.2.1, r0.1.2.2.2.2.2.2.2.2.2.2.1, r0.1.2.2.2.2.2.2.2.2.2.2.2.1, r0.1.2.2.2.2.2.2.2.2.2.2.2.2.1, r0.1.2.2.2.2.2.2.2.2.2.2.2.2.2.1, r0.1.2.2.2.2.2.2.2.2.2.2.2.2.2.2, r1.1, r2.1, r3.1, r4.1, r5.1, r6.1), ()) := by kernel_rfl
def c_sBusy : TC :=
 (.seq (.rg [o1 1 (.a (.t 0)),
   o1 2 (.lit [.b] [.bool false])])
 (.seq (.rg [o1 3 (.idx .nil),
   o1 4 (.idx (.t 3)),
   o1 5 (.load 1 [] 9 (.t 4) 1 false),
   o1 6 (.data (.bin .neq) [.t 5, .c (.int .i64 (0))]),
   o1 2 (.copy 6)])
 .ret))
def s_sBusy : Sig := ⟨[.rd true [.d, .sl (.own none) [.d], .sl (.own none) [.d, .d], .sl (.own none) [.sl (.own none) [.d]], .sl (.own none) [.d], .d, .d, .d, .d, .d, .d, .d, .sl (.own none) [.d, .d], .d, .sl (.own none) [.d, .d, .d, .d, .d, .d]]], (.one false [.d])⟩
noncomputable def E_sBusy : TEnv := envOf []
noncomputable def f_sBusy (n : Nat) : (Int × List (Int) × List (Int × Int) × List (List (Int)) × List (Int) × Int × Int × Int × Int × Int × Int × Int × List (Int × Int) × Int × List (Int × Int × Int × Int × Int × Int)) → Option ((Bool) × Unit) := runFn n E_sBusy c_sBusy [[.i .i64, .sl [.i .i64], .sl [.i .i64, .i .i64], .sl [.sl [.i .i64]], .sl [.i .i64], .i .i64, .i .i64, .i .i64, .i .i64, .i .i64, .i .i64, .i .i64, .sl [.i .i64, .i .i64], .i .i64, .sl [.i .i64, .i .i64, .i .i64, .i .i64, .i .i64, .i .i64]]] [.b] [] [2] .no
noncomputable def g_sBusy := f_sBusy BIG
noncomputable def p_sBusy : TSp := ⟨s_sBusy, [[.i .i64, .sl [.i .i64], .sl [.i .i64, .i .i64], .sl [.sl [.i .i64]], .sl [.i .i64], .i .i64, .i .i64, .i .i64, .i .i64, .i .i64, .i .i64, .i .i64, .sl [.i .i64, .i .i64], .i .i64, .sl [.i .i64, .i .i64, .i .i64, .i .i64, .i .i64, .i .i64]]], [.b], [], Ou.j .no, g_sBusy⟩
theorem k_sBusy : chkW PG E_sBusy 54 s_sBusy (c_sBusy.ht 7) .no = some (c_sBusy.wc E_sBusy, [2]) := by kernel_rfl
theorem ok_sBusy : p_sBusy.Ok PG 54 := mkOk (env_nil PG) k_sBusy (by kernel_rfl)
theorem e_sBusy (n : Nat) (a0 : Int × List (Int) × List (Int × Int) × List ((List (Int))) × List (Int) × Int × Int × Int × Int × Int × Int × Int × List (Int × Int) × Int × List (Int × Int × Int × Int × Int × Int)) : f_sBusy n a0 =
  some (!decide (a0.2.2.2.2.2.2.2.2.2.1 = (0 : Int)), ()) := by kernel_rfl
def c_sl01In : TC :=
 (.seq (.rg [o1 6 (.lit [.b] [.bool false])])
 (.seq (.join [⟨6, [.b], false⟩] 32704 none (.rg [o1 7 (.copy 0),
   o1 8 (.copy 1),
   o1 9 (.data (.bin .geq) [.t 7, .t 8]),
   o1 10 (.copy 9),
   o2 11 (.copy 0) 3 true,
   o2 12 (.copy 2) 3 true,
   o2 13 (.data (.bin .leq) [.t 11, .t 12]) 3 true,
   ⟨false, [], [], .pick 10 (.t 13) (.c (.bool false)), [14], (some 14), none⟩,
   o1 6 (.copy 14)]))
 .ret))
def s_sl01In : Sig := ⟨[.rd false [.d], .rd false [.d], .rd false [.d]], (.one false [.d])⟩
noncomputable def E_sl01In : TEnv := envOf []
noncomputable def f_sl01In (n : Nat) : Int × Int × Int → Option ((Bool) × Unit) := runFn n E_sl01In c_sl01In [[.i .i64], [.i .i64], [.i .i64]] [.b] [] [6] .no
noncomputable def g_sl01In := f_sl01In BIG
noncomputable def p_sl01In : TSp := ⟨s_sl01In, [[.i .i64], [.i .i64], [.i .i64]], [.b], [], Ou.j .no, g_sl01In⟩
theorem k_sl01In : chkW PG E_sl01In 89 s_sl01In (c_sl01In.ht 15) .no = some (c_sl01In.wc E_sl01In, [6]) := by kernel_rfl
theorem ok_sl01In : p_sl01In.Ok PG 89 := mkOk (env_nil PG) k_sl01In (by kernel_rfl)
theorem e_sl01In (n : Nat) (a0 : Int) (a1 : Int) (a2 : Int) : f_sl01In n (a0, a1, a2) =
  Option.bind (bif decide (a1 ≤ a0) then
    some (decide (a0 ≤ a2))
   else some false : Option (Bool)) fun x0 =>
  some (x0, ()) := by kernel_rfl
def c_sEdgeOk : TC :=
 (.seq (.rg [o1 3 (.a (.t 1)),
   o1 4 (.lit [.b] [.bool false])])
 (.seq (.join [⟨4, [.b], false⟩] 268435440 none (.rg [o1 5 (.copy 0),
   o3 6 89 [.t 5, .c [.i .i64] [.int .i64 (1)], .c [.i .i64] [.int .i64 (12)]],
   o1 7 (.copy 6),
   o2 8 (.idx .nil) 2 true,
   o2 9 (.load 3 [] 0 (.t 8) 1 false) 2 true,
   o2 10 (.copy 0) 2 true,
   o2 11 (.data (.bin .sub) [.t 10, .c (.int .i64 (1))]) 2 true,
   ⟨false, [], [], .call 1 89 [.t 9, .c [.i .i64] [.int .i64 (0)], .t 11] .no, [12], (some 12), some (2, true)⟩,
   ⟨false, [], [], .pick 7 (.t 12) (.c (.bool false)), [13], (some 13), none⟩,
   o1 14 (.copy 13),
   o2 15 (.idx .nil) 9 true,
   o2 16 (.load 3 [] 1 (.t 15) 1 false) 9 true,
   o2 17 (.copy 0) 9 true,
   o2 18 (.data (.bin .sub) [.t 17, .c (.int .i64 (1))]) 9 true,
   ⟨false, [], [], .call 1 89 [.t 16, .c [.i .i64] [.int .i64 (0)], .t 18] .no, [19], (some 19), some (9, true)⟩,
   ⟨false, [], [], .pick 14 (.t 19) (.c (.bool false)), [20], (some 20), none⟩,
   o1 21 (.copy 20),
   o2 22 (.idx .nil) 16 true,
   o2 23 (.load 3 [] 0 (.t 22) 1 false) 16 true,
   o2 24 (.idx .nil) 16 true,
   o2 25 (.load 3 [] 1 (.t 24) 1 false) 16 true,
   o2 26 (.data (.bin .lss) [.t 23, .t 25]) 16 true,
   ⟨false, [], [], .pick 21 (.t 26) (.c (.bool false)), [27], (some 27), none⟩,
   o1 4 (.copy 27)]))
 .ret))
def s_sEdgeOk : Sig := ⟨[.rd false [.d], .rd true [.d, .d]], (.one false [.d])⟩
noncomputable def E_sEdgeOk : TEnv := envOf [(89, p_sl01In)]
noncomputable def f_sEdgeOk (n : Nat) : Int × (Int × Int) → Option ((Bool) × Unit) := runFn n E_sEdgeOk c_sEdgeOk [[.i .i64], [.i .i64, .i .i64]] [.b] [] [4] .no
noncomputable def g_sEdgeOk := f_sEdgeOk BIG
noncomputable def p_sEdgeOk : TSp := ⟨s_sEdgeOk, [[.i .i64], [.i .i64, .i .i64]], [.b], [], Ou.j .no, g_sEdgeOk⟩
theorem k_sEdgeOk : chkW PG E_sEdgeOk 126 s_sEdgeOk (c_sEdgeOk.ht 28) .no = some (c_sEdgeOk.wc E_sEdgeOk, [4]) := by kernel_rfl
theorem ok_sEdgeOk : p_sEdgeOk.Ok PG 126 := mkOk (env_cons ok_sl01In (env_nil PG)) k_sEdgeOk (by kernel_rfl)
theorem e_sEdgeOk (n : Nat) (a0 : Int) (a1 : Int × Int) : f_sEdgeOk n (a0, a1) =
  Option.bind (Option.bind (g_sl01In (a0, (1 : Int), (12 : Int))) fun r0 =>
   bif r0.1 then
    Option.bind (g_sl01In (a1.1, (0 : Int), IntKind.wrap .i64 (a0 - (1 : Int)))) fun r1 =>
    bif r1.1 then
     Option.bind (g_sl01In (a1.2, (0 : Int), IntKind.wrap .i64 (a0 - (1 : Int)))) fun r2 =>
     bif r2.1 then
      some (decide (a1.1 < a1.2))
     else some false
    else some false
   else some false : Option (Bool)) fun x3 =>
  some (x3, ()) := by kernel_rfl
def c_sl05Less : TC :=
 (.seq (.rg [o1 2 (.a (.t 0)),
   o1 3 (.a (.t 1)),
   o1 4 (.lit [.b] [.bool false])])
 (.seq (.join [⟨4, [.b], false⟩] 16777200 none (.rg [o1 5 (.idx .nil),
   o1 6 (.load 2 [] 0 (.t 5) 1 false),
   o1 7 (.idx .nil),
   o1 8 (.load 3 [] 0 (.t 7) 1 false),
   o1 9 (.data (.bin .lss) [.t 6, .t 8]),
   o1 10 (.copy 9),
   o2 11 (.idx .nil) 5 false,
   o2 12 (.load 2 [] 0 (.t 11) 1 false) 5 false,
   o2 13 (.idx .nil) 5 false,
   o2 14 (.load 3 [] 0 (.t 13) 1 false) 5 false,
   o2 15 (.data (.bin .eql) [.t 12, .t 14]) 5 false,
   o2 16 (.copy 15) 5 false,
   o2 17 (.idx .nil) 11 true,
   o2 18 (.load 2 [] 1 (.t 17) 1 false) 11 true,
   o2 19 (.idx .nil) 11 true,
   o2 20 (.load 3 [] 1 (.t 19) 1 false) 11 true,
   o2 21 (.data (.bin .lss) [.t 18, .t 20]) 11 true,
   ⟨false, [], [], .pick 16 (.t 21) (.c (.bool false)), [22], (some 22), some (5, false)⟩,
   ⟨false, [], [], .pick 10 (.c (.bool true)) (.t 22), [23], (some 23), none⟩,
   o1 4 (.copy 23)]))
 .ret))
def s_sl05Less : Sig := ⟨[.rd true [.d, .d], .rd true [.d, .d]], (.one false [.d])⟩
noncomputable def E_sl05Less : TEnv := envOf []
noncomputable def f_sl05Less (n : Nat) : (Int × Int) × (Int × Int) → Option ((Bool) × Unit) := runFn n E_sl05Less c_sl05Less [[.i .i64, .i .i64], [.i .i64, .i .i64]] [.b] [] [4] .no
noncomputable def g_sl05Less := f_sl05Less BIG
noncomputable def p_sl05Less : TSp := ⟨s_sl05Less, [[.i .i64, .i .i64], [.i .i64, .i .i64]], [.b], [], Ou.j .no, g_sl05Less⟩
theorem k_sl05Less : chkW PG E_sl05Less 171 s_sl05Less (c_sl05Less.ht 24) .no = some (c_sl05Less.wc E_sl05Less, [4]) := by kernel_rfl
theorem ok_sl05Less : p_sl05Less.Ok PG 171 := mkOk (env_nil PG) k_sl05Less (by kernel_rfl)
theorem e_sl05Less (n : Nat) (a0 : Int × Int) (a1 : Int × Int) : f_sl05Less n (a0, a1) =
  Option.bind (bif decide (a0.1 < a1.1) then
    some true
   else bif decide (a0.1 = a1.1) then
    some (decide (a0.2 < a1.2))
   else some false : Option (Bool)) fun x0 =>
  some (x0, ()) := by kernel_rfl
def c_sl05Edges : TC :=
 (.seq (.rg [o1 4 (.lit [.b] [.bool false])])
 (.seq (.join [] 68719476720 (some [⟨4, [.b], false⟩]) (.seq (.rg [o1 5 (.lit [.i .i64] [.int .i64 (0)])])
 (.block 0 (.loop [⟨5, [.i .i64], false⟩] 68719476720
  (.seq (.seq (.rg [o1 6 (.copy 5),
    o1 7 (.copy 1),
    o1 8 (.len 7),
    o1 9 (.data (.bin .lss) [.t 6, .t 8])])
  (.cond (.t 9)
   .skip
   (.exit 0)))
  (.seq (.join [] 68719472656 (some [⟨4, [.b], false⟩]) (.block 1 (.seq (.join [⟨35, [.b], false⟩] 68719472640 none (.rg [o1 12 (.copy 0),
    o1 13 (.copy 1),
    o1 14 (.copy 5),
    o1 15 (.index 13 (.t 14)),
    o1 16 (.load 13 [(0, 2)] 0 (.t 15) 2 false),
    o3 17 126 [.t 12, .t 16],
    o1 18 (.data .not [.t 17]),
    o1 19 (.copy 18),
    o2 20 (.copy 5) 7 false,
    o2 21 (.data (.bin .gtr) [.t 20, .c (.int .i64 (0))]) 7 false,
    o2 22 (.copy 21) 7 false,
    o2 23 (.copy 1) 10 true,
    o2 24 (.copy 5) 10 true,
    o2 25 (.data (.bin .sub) [.t 24, .c (.int .i64 (1))]) 10 true,
    o2 26 (.index 23 (.t 25)) 10 true,
    o2 27 (.load 23 [(0, 2)] 0 (.t 26) 2 false) 10 true,
    o2 28 (.copy 1) 10 true,
    o2 29 (.copy 5) 10 true,
    o2 30 (.index 28 (.t 29)) 10 true,
    o2 31 (.load 28 [(0, 2)] 0 (.t 30) 2 false) 10 true,
    ⟨false, [], [], .call 1 171 [.t 27, .t 31] .no, [32], (some 32), some (10, true)⟩,
    o2 33 (.data .not [.t 32]) 10 true,
    ⟨false, [], [], .pick 22 (.t 33) (.c (.bool false)), [34], (some 34), some (7, false)⟩,
    ⟨false, [], [], .pick 19 (.c (.bool true)) (.t 34), [35], (some 35), none⟩]))
  (.cond (.t 35)
   (.seq (.rg [o1 4 (.lit [.b] [.bool false])])
   .ret)
   .skip))))
  (.rg [o1 10 (.copy 5),
    o1 11 (.data (.bin .add) [.t 10, .c (.int .i64 (1))]),
    o1 5 (.copy 11)])))))))
 (.seq (.rg [o1 36 (.copy 1),
   o1 37 (.len 36),
   o1 38 (.data (.bin .leq) [.t 37, .c (.int .i64 (66))]),
   o1 4 (.copy 38)])
 .ret)))
def s_sl05Edges : Sig := ⟨[.rd false [.d], .rd false [.sl (.own none) [.d, .d]]], (.one false [.d])⟩
noncomputable def E_sl05Edges : TEnv := envOf [(126, p_sEdgeOk), (171, p_sl05Less)]
noncomputable def f_sl05Edges (n : Nat) : Int × (List (Int × Int)) → Option ((Bool) × Unit) := runFn n E_sl05Edges c_sl05Edges [[.i .i64], [.sl [.i .i64, .i .i64]]] [.b] [] [4] .no
noncomputable def g_sl05Edges := f_sl05Edges BIG
noncomputable def p_sl05Edges : TSp := ⟨s_sl05Edges, [[.i .i64], [.sl [.i .i64, .i .i64]]], [.b], [], Ou.j .no, g_sl05Edges⟩
theorem k_sl05Edges : chkW PG E_sl05Edges 148 s_sl05Edges (c_sl05Edges.ht 39) .no = some (c_sl05Edges.wc E_sl05Edges, [4]) := by kernel_rfl
theorem ok_sl05Edges : p_sl05Edges.Ok PG 148 := mkOk (env_cons ok_sEdgeOk (env_cons ok_sl05Less (env_nil PG))) k_sl05Edges (by kernel_rfl)
theorem e_sl05Edges (n : Nat) (a0 : Int) (a1 : List (Int × Int)) : f_sl05Edges n (a0, a1) =
  Option.bind (loopT n (X := Int) (B := (Unit) ⊕ (Bool)) (fun self1 x0 =>
    bif decide (x0 < (a1.length : Int)) then
     Option.bind (Option.bind (bnd a1.length x0 fun n2 =>
       Option.bind a1[n2]? fun y3 =>
       Option.bind (g_sEdgeOk (a0, y3)) fun r4 =>
       bif !r4.1 then
        some true
       else bif decide ((0 : Int) < x0) then
        bnd a1.length (IntKind.wrap .i64 (x0 - (1 : Int))) fun n5 =>
        Option.bind a1[n5]? fun y6 =>
        bnd a1.length x0 fun n7 =>
        Option.bind a1[n7]? fun y8 =>
        Option.bind (g_sl05Less (y6, y8)) fun r9 =>
        some !r9.1
       else some false : Option (Bool)) fun x10 =>
      bif x10 then
       some (Sum.inr false)
      else some (Sum.inl ()) : Option ((Unit) ⊕ (Bool))) fun y => match y with
     | .inl x11 =>
      self1 (IntKind.wrap .i64 (x0 + (1 : Int)))
     | .inr x11 =>
      some (Sum.inr x11)
    else some (Sum.inl ())) (0 : Int) : Option ((Unit) ⊕ (Bool))) fun y => match y with
  | .inl x12 =>
   some (decide ((a1.length : Int) ≤ (66 : Int)), ())
  | .inr x12 =>
   some (x12, ()) := by kernel_rfl
def c_sGraphOk : TC :=
 (.seq (.rg [o1 1 (.a (.t 0)),
   o1 2 (.lit [.b] [.bool false])])
 (.seq (.join [⟨2, [.b], false⟩] 8188 none (.rg [o1 3 (.idx .nil),
   o1 4 (.load 1 [] 0 (.t 3) 1 false),
   o3 5 89 [.t 4, .c [.i .i64] [.int .i64 (1)], .c [.i .i64] [.int .i64 (12)]],
   o1 6 (.copy 5),
   o2 7 (.idx .nil) 3 true,
   o2 8 (.load 1 [] 0 (.t 7) 1 false) 3 true,
   o2 9 (.idx .nil) 3 true,
   o2 10 (.load 1 [] 1 (.t 9) 1 false) 3 true,
   ⟨false, [], [], .call 1 148 [.t 8, .t 10] .no, [11], (some 11), some (3, true)⟩,
   ⟨false, [], [], .pick 6 (.t 11) (.c (.bool false)), [12], (some 12), none⟩,
   o1 2 (.copy 12)]))
 .ret))
def s_sGraphOk : Sig := ⟨[.rd true [.d, .sl (.own none) [.d, .d]]], (.one false [.d])⟩
noncomputable def E_sGraphOk : TEnv := envOf [(89, p_sl01In), (148, p_sl05Edges)]
noncomputable def f_sGraphOk (n : Nat) : (Int × List (Int × Int)) → Option ((Bool) × Unit) := runFn n E_sGraphOk c_sGraphOk [[.i .i64, .sl [.i .i64, .i .i64]]] [.b] [] [2] .no
noncomputable def g_sGraphOk := f_sGraphOk BIG
noncomputable def p_sGraphOk : TSp := ⟨s_sGraphOk, [[.i .i64, .sl [.i .i64, .i .i64]]], [.b], [], Ou.j .no, g_sGraphOk⟩
theorem k_sGraphOk : chkW PG E_sGraphOk 127 s_sGraphOk (c_sGraphOk.ht 13) .no = some (c_sGraphOk.wc E_sGraphOk, [2]) := by kernel_rfl
theorem ok_sGraphOk : p_sGraphOk.Ok PG 127 := mkOk (env_cons ok_sl01In (env_cons ok_sl05Edges (env_nil PG))) k_sGraphOk (by kernel_rfl)
theorem e_sGraphOk (n : Nat) (a0 : Int × List (Int × Int)) : f_sGraphOk n a0 =
  Option.bind (Option.bind (g_sl01In (a0.1, (1 : Int), (12 : Int))) fun r0 =>
   bif r0.1 then
    Option.bind (g_sl05Edges (a0.1, a0.2)) fun r1 =>
    some r1.1
   else some false : Option (Bool)) fun x2 =>
  some (x2, ()) := by kernel_rfl
def c_sl05Labels : TC :=
 (.seq (.rg [o1 4 (.lit [.sl [.i .i64]] [.slice none 0 0])])
 (.seq (.rg [o1 11 (.sli [.i .i64] []),
   ⟨false, [], [], .det 2 (.copy 11), [5, 11], (some 5), none⟩])
 (.seq (.join [⟨5, [.sl [.i .i64]], false⟩] 2093152 none (.seq (.rg [o1 6 (.lit [.i .i64] [.int .i64 (0)])])
 (.block 0 (.loop [⟨5, [.sl [.i .i64]], false⟩, ⟨6, [.i .i64], false⟩] 2093152
  (.seq (.seq (.rg [o1 12 (.copy 6),
    o1 13 (.copy 0),
    o1 14 (.data (.bin .lss) [.t 12, .t 13])])
  (.cond (.t 14)
   .skip
   (.exit 0)))
  (.seq (.block 1 (.rg [⟨false, [], [], .det 2 (.copy 5), [17, 5], (some 17), none⟩,
    o1 18 (.copy 6),
    o1 19 (.sli [.i .i64] [.t 18]),
    ⟨false, [], [], .det 2 (.app (some 17) 19), [20, 17], (some 20), none⟩,
    ⟨false, [], [], .det 2 (.copy 20), [5, 20], (some 5), none⟩]))
  (.rg [o1 15 (.copy 6),
    o1 16 (.data (.bin .add) [.t 15, .c (.int .i64 (1))]),
    o1 6 (.copy 16)])))))))
 (.seq (.join [⟨5, [.sl [.i .i64]], false⟩] 1180591620717409208224 none (.seq (.rg [o1 7 (.lit [.i .i64] [.int .i64 (0)])])
 (.block 2 (.loop [⟨5, [.sl [.i .i64]], false⟩, ⟨7, [.i .i64], false⟩] 1180591620717409208224
  (.seq (.seq (.rg [o1 21 (.copy 7),
    o1 22 (.copy 0),
    o1 23 (.data (.bin .lss) [.t 21, .t 22])])
  (.cond (.t 23)
   .skip
   (.exit 2)))
  (.seq (.join [⟨5, [.sl [.i .i64]], false⟩] 1180591620717344196384 none (.block 3 (.seq (.rg [o1 8 (.lit [.i .i64] [.int .i64 (0)])])
  (.block 4 (.loop [⟨5, [.sl [.i .i64]], false⟩, ⟨8, [.i .i64], false⟩] 1180591620717344196384
   (.seq (.seq (.rg [o1 26 (.copy 8),
     o1 27 (.copy 1),
     o1 28 (.len 27),
     o1 29 (.data (.bin .lss) [.t 26, .t 28])])
   (.cond (.t 29)
    .skip
    (.exit 4)))
   (.seq (.join [⟨5, [.sl [.i .i64]], false⟩] 1180591620713116337696 none (.block 5 (.seq (.rg [⟨true, [], [], .det 1 (.copy 5), [32], (some 32), none⟩,
     o1 33 (.copy 1),
     o1 34 (.copy 8),
     o1 35 (.index 33 (.t 34)),
     o1 36 (.idx (.t 35)),
     o1 37 (.load 33 [(0, 2)] 0 (.t 36) 1 false),
     o1 38 (.index 32 (.t 37)),
     o1 39 (.load 5 [(0, 1)] 0 (.t 38) 1 false),
     o1 9 (.copy 39)])
   (.seq (.rg [⟨true, [], [], .det 1 (.copy 5), [40], (some 40), none⟩,
     o1 41 (.copy 1),
     o1 42 (.copy 8),
     o1 43 (.index 41 (.t 42)),
     o1 44 (.idx (.t 43)),
     o1 45 (.load 41 [(0, 2)] 1 (.t 44) 1 false),
     o1 46 (.index 40 (.t 45)),
     o1 47 (.load 5 [(0, 1)] 0 (.t 46) 1 false),
     o1 10 (.copy 47)])
   (.seq (.join [⟨5, [.sl [.i .i64]], false⟩] 576180381133307936 none (.seq (.rg [o1 48 (.copy 9),
     o1 49 (.copy 10),
     o1 50 (.data (.bin .lss) [.t 48, .t 49])])
   (.cond (.t 50)
    (.rg [⟨true, [], [], .det 1 (.copy 5), [51], (some 51), none⟩,
      o1 52 (.copy 1),
      o1 53 (.copy 8),
      o1 54 (.index 52 (.t 53)),
      o1 55 (.idx (.t 54)),
      o1 56 (.load 52 [(0, 2)] 1 (.t 55) 1 false),
      o1 57 (.copy 9),
      o1 58 (.index 51 (.t 56)),
      o4 1 [5, 32, 40, 51] (.store 5 [(0, 1)] 0 (.t 58) (.t 57))])
    .skip)))
   (.seq (.rg [o1 59 (.copy 10),
     o1 60 (.copy 9),
     o1 61 (.data (.bin .lss) [.t 59, .t 60])])
   (.cond (.t 61)
    (.rg [⟨true, [], [], .det 1 (.copy 5), [62], (some 62), none⟩,
      o1 63 (.copy 1),
      o1 64 (.copy 8),
      o1 65 (.index 63 (.t 64)),
      o1 66 (.idx (.t 65)),
      o1 67 (.load 63 [(0, 2)] 0 (.t 66) 1 false),
      o1 68 (.copy 10),
      o1 69 (.index 62 (.t 67)),
      o4 1 [5, 62] (.store 5 [(0, 1)] 0 (.t 69) (.t 68))])
    .skip)))))))
   (.rg [o1 30 (.copy 8),
     o1 31 (.data (.bin .add) [.t 30, .c (.int .i64 (1))]),
     o1 8 (.copy 31)]))))))))
  (.rg [o1 24 (.copy 7),
    o1 25 (.data (.bin .add) [.t 24, .c (.int .i64 (1))]),
    o1 7 (.copy 25)])))))))
 (.seq (.rg [⟨false, [], [], .det 2 (.copy 5), [70, 5], (some 70), none⟩,
   ⟨false, [], [], .det 2 (.copy 70), [4, 70], (some 4), none⟩])
 .ret)))))
def s_sl05Labels : Sig := ⟨[.rd false [.d], .rd false [.sl (.own none) [.d, .d]]], (.one false [.sl (.own none) [.d]])⟩
noncomputable def E_sl05Labels : TEnv := envOf []
noncomputable def f_sl05Labels (n : Nat) : Int × (List (Int × Int)) → Option ((List (Int)) × Unit) := runFn n E_sl05Labels c_sl05Labels [[.i .i64], [.sl [.i .i64, .i .i64]]] [.sl [.i .i64]] [] [4] .no
noncomputable def g_sl05Labels := f_sl05Labels BIG
noncomputable def p_sl05Labels : TSp := ⟨s_sl05Labels, [[.i .i64], [.sl [.i .i64, .i .i64]]], [.sl [.i .i64]], [], Ou.j .no, g_sl05Labels⟩
theorem k_sl05Labels : chkW PG E_sl05Labels 90 s_sl05Labels (c_sl05Labels.ht 71) .no = some (c_sl05Labels.wc E_sl05Labels, [4]) := by kernel_rfl
theorem ok_sl05Labels : p_sl05Labels.Ok PG 90 := mkOk (env_nil PG) k_sl05Labels (by kernel_rfl)
theorem e_sl05Labels (n : Nat) (a0 : Int) (a1 : List (Int × Int)) : f_sl05Labels n (a0, a1) =
  Option.bind (loopT n (X := (List (Int)) × Int) (B := (List (Int))) (fun self1 x0 =>
    bif decide (x0.2 < a0) then
     bif decide (x0.1.length + [x0.2].length ≤ 4294967296) then
      self1 (x0.1 ++ [x0.2], IntKind.wrap .i64 (x0.2 + (1 : Int)))
     else none
    else some x0.1) ([], (0 : Int)) : Option ((List (Int)))) fun x2 =>
  Option.bind (loopT n (X := (List (Int)) × Int) (B := (List (Int))) (fun self4 x3 =>
    bif decide (x3.2 < a0) then
     Option.bind (loopT n (X := (List (Int)) × Int) (B := (List (Int))) (fun self6 x5 =>
       bif decide (x5.2 < (a1.length : Int)) then
        Option.bind (bnd a1.length x5.2 fun n7 =>
         Option.bind a1[n7]? fun y8 =>
         bnd x5.1.length y8.1 fun n9 =>
         Option.bind x5.1[n9]? fun y10 =>
         bnd a1.length x5.2 fun n11 =>
         Option.bind a1[n11]? fun y12 =>
         bnd x5.1.length y12.2 fun n13 =>
         Option.bind x5.1[n13]? fun y14 =>
         Option.bind (bif decide (y10 < y14) then
           bnd a1.length x5.2 fun n15 =>
           Option.bind a1[n15]? fun y16 =>
           bnd x5.1.length y16.2 fun n17 =>
           Option.bind x5.1[n17]? fun y18 =>
           some (x5.1.set n17 y10)
          else some x5.1 : Option ((List (Int)))) fun x19 =>
         bif decide (y14 < y10) then
          bnd a1.length x5.2 fun n20 =>
          Option.bind a1[n20]? fun y21 =>
          bnd x19.length y21.1 fun n22 =>
          Option.bind x19[n22]? fun y23 =>
          some (x19.set n22 y14)
         else some x19 : Option ((List (Int)))) fun x24 =>
        self6 (x24, IntKind.wrap .i64 (x5.2 + (1 : Int)))
       else some x5.1) (x3.1, (0 : Int)) : Option ((List (Int)))) fun x25 =>
     self4 (x25, IntKind.wrap .i64 (x3.2 + (1 : Int)))
    else some x3.1) (x2, (0 : Int)) : Option ((List (Int)))) fun x26 =>
  some (x26, ()) := by kernel_rfl
def c_sLabels : TC :=
 (.seq (.rg [o1 1 (.a (.t 0)),
   o1 2 (.lit [.sl [.i .i64]] [.slice none 0 0])])
 (.seq (.seq (.rg [o1 3 (.load 1 [] 0 .nil 2 false),
   o3 4 127 [.t 3],
   o1 5 (.data .not [.t 4])])
 (.cond (.t 5)
  (.seq (.rg [o1 6 (.sli [.i .i64] []),
    ⟨false, [], [], .det 2 (.copy 6), [2, 6], (some 2), none⟩])
  .ret)
  .skip))
 (.seq (.rg [o1 7 (.idx .nil),
   o1 8 (.load 1 [] 0 (.t 7) 1 false),
   o1 9 (.idx .nil),
   o1 10 (.load 1 [] 1 (.t 9) 1 false),
   o3 11 90 [.t 8, .t 10],
   ⟨false, [], [], .det 2 (.copy 11), [2, 11], (some 2), none⟩])
 .ret)))
def s_sLabels : Sig := ⟨[.rd true [.d, .sl (.own none) [.d, .d]]], (.one false [.sl (.own none) [.d]])⟩
noncomputable def E_sLabels : TEnv := envOf [(127, p_sGraphOk), (90, p_sl05Labels)]
noncomputable def f_sLabels (n : Nat) : (Int × List (Int × Int)) → Option ((List (Int)) × Unit) := runFn n E_sLabels c_sLabels [[.i .i64, .sl [.i .i64, .i .i64]]] [.sl [.i .i64]] [] [2] .no
noncomputable def g_sLabels := f_sLabels BIG
noncomputable def p_sLabels : TSp := ⟨s_sLabels, [[.i .i64, .sl [.i .i64, .i .i64]]], [.sl [.i .i64]], [], Ou.j .no, g_sLabels⟩
theorem k_sLabels : chkW PG E_sLabels 61 s_sLabels (c_sLabels.ht 12) .no = some (c_sLabels.wc E_sLabels, [2]) := by kernel_rfl
theorem ok_sLabels : p_sLabels.Ok PG 61 := mkOk (env_cons ok_sGraphOk (env_cons ok_sl05Labels (env_nil PG))) k_sLabels (by kernel_rfl)
theorem e_sLabels (n : Nat) (a0 : Int × List (Int × Int)) : f_sLabels n a0 =
  Option.bind (g_sGraphOk a0) fun r0 =>
  bif !r0.1 then
   some ([], ())
  else Option.bind (g_sl05Labels (a0.1, a0.2)) fun r1 =>
  some (r1.1, ()) := by kernel_rfl
def c_sTogether : TC :=
 (.seq (.rg [o1 3 (.a (.t 0)),
   o1 6 (.lit [.b] [.bool false])])
 (.seq (.rg [o1 8 (.load 3 [] 0 .nil 2 false),
   o3 9 61 [.t 8],
   ⟨false, [], [], .det 2 (.copy 9), [7, 9], (some 7), none⟩])
 (.seq (.join [⟨6, [.b], false⟩] 8589933632 none (.rg [o1 10 (.copy 1),
   ⟨true, [], [], .det 1 (.copy 7), [11], (some 11), none⟩,
   o1 12 (.len 11),
   o1 13 (.data (.bin .sub) [.t 12, .c (.int .i64 (1))]),
   o3 14 89 [.t 10, .c [.i .i64] [.int .i64 (0)], .t 13],
   o1 15 (.copy 14),
   o2 16 (.copy 2) 5 true,
   ⟨true, [], [], .det 1 (.copy 7), [17], (some 17), some (5, true)⟩,
   o2 18 (.len 17) 5 true,
   o2 19 (.data (.bin .sub) [.t 18, .c (.int .i64 (1))]) 5 true,
   ⟨false, [], [], .call 1 89 [.t 16, .c [.i .i64] [.int .i64 (0)], .t 19] .no, [20], (some 20), some (5, true)⟩,
   ⟨false, [], [], .pick 15 (.t 20) (.c (.bool false)), [21], (some 21), none⟩,
   o1 22 (.copy 21),
   ⟨true, [], [], .det 1 (.copy 7), [23], (some 23), some (12, true)⟩,
   o2 24 (.copy 1) 12 true,
   o2 25 (.index 23 (.t 24)) 12 true,
   o2 26 (.load 7 [(0, 1)] 0 (.t 25) 1 false) 12 true,
   ⟨true, [], [], .det 1 (.copy 7), [27], (some 27), some (12, true)⟩,
   o2 28 (.copy 2) 12 true,
   o2 29 (.index 27 (.t 28)) 12 true,
   o2 30 (.load 7 [(0, 1)] 0 (.t 29) 1 false) 12 true,
   o2 31 (.data (.bin .eql) [.t 26, .t 30]) 12 true,
   ⟨false, [], [], .pick 22 (.t 31) (.c (.bool false)), [32], (some 32), none⟩,
   o1 6 (.copy 32)]))
 .ret)))
def s_sTogether : Sig := ⟨[.rd true [.d, .sl (.own none) [.d, .d]], .rd false [.d], .rd false [.d]], (.one false [.d])⟩
noncomputable def E_sTogether : TEnv := envOf [(61, p_sLabels), (89, p_sl01In)]
noncomputable def f_sTogether (n : Nat) : (Int × List (Int × Int)) × Int × Int → Option ((Bool) × Unit) := runFn n E_sTogether c_sTogether [[.i .i64, .sl [.i .i64, .i .i64]], [.i .i64], [.i .i64]] [.b] [] [6] .no
noncomputable def g_sTogether := f_sTogether BIG
noncomputable def p_sTogether : TSp := ⟨s_sTogether, [[.i .i64, .sl [.i .i64, .i .i64]], [.i .i64], [.i .i64]], [.b], [], Ou.j .no, g_sTogether⟩
theorem k_sTogether : chkW PG E_sTogether 168 s_sTogether (c_sTogether.ht 33) .no = some (c_sTogether.wc E_sTogether, [6]) := by kernel_rfl
theorem ok_sTogether : p_sTogether.Ok PG 168 := mkOk (env_cons ok_sLabels (env_cons ok_sl01In (env_nil PG))) k_sTogether (by kernel_rfl)
theorem e_sTogether (n : Nat) (a0 : Int × List (Int × Int)) (a1 : Int) (a2 : Int) : f_sTogether n (a0, a1, a2) =
  Option.bind (g_sLabels a0) fun r0 =>
  Option.bind (Option.bind (g_sl01In (a1, (0 : Int), IntKind.wrap .i64 ((r0.1.length : Int) - (1 : Int)))) fun r1 =>
   bif r1.1 then
    Option.bind (g_sl01In (a2, (0 : Int), IntKind.wrap .i64 ((r0.1.length : Int) - (1 : Int)))) fun r2 =>
    bif r2.1 then
     bnd r0.1.length a1 fun n3 =>
     Option.bind r0.1[n3]? fun y4 =>
     bnd r0.1.length a2 fun n5 =>
     Option.bind r0.1[n5]? fun y6 =>
     some (decide (y4 = y6))
    else some false
   else some false : Option (Bool)) fun x7 =>
  some (x7, ()) := by kernel_rfl
def c_sl12Edge : TC :=
 (.seq (.rg [o1 1 (.a (.t 0)),
   ⟨false, [], [], .det 2 (.a (.c [.i .i64, .i .i64] [.int .i64 (0), .int .i64 (0)])), [2, 1000000001], (some 2), none⟩])
 (.seq (.seq (.rg [o1 3 (.idx .nil),
   o1 4 (.load 1 [] 2 (.t 3) 1 false),
   o1 5 (.idx .nil),
   o1 6 (.load 1 [] 3 (.t 5) 1 false),
   o1 7 (.data (.bin .lss) [.t 4, .t 6])])
 (.cond (.t 7)
  (.seq (.rg [o1 8 (.idx .nil),
    o1 9 (.load 1 [] 2 (.t 8) 1 false),
    o1 10 (.idx .nil),
    o1 11 (.load 1 [] 3 (.t 10) 1 false),
    o1 12 (.build [.i .i64, .i .i64] [(0, .t 9), (1, .t 11)]),
    o4 1 [2] (.store 2 [] 0 .nil (.t 12))])
  .ret)
  .skip))
 (.seq (.rg [o1 13 (.idx .nil),
   o1 14 (.load 1 [] 3 (.t 13) 1 false),
   o1 15 (.idx .nil),
   o1 16 (.load 1 [] 2 (.t 15) 1 false),
   o1 17 (.build [.i .i64, .i .i64] [(0, .t 14), (1, .t 16)]),
   o4 1 [2] (.store 2 [] 0 .nil (.t 17))])
 .ret)))
def s_sl12Edge : Sig := ⟨[.rd true [.d, .d, .d, .d]], (.one true [.d, .d])⟩
noncomputable def E_sl12Edge : TEnv := envOf []
noncomputable def f_sl12Edge (n : Nat) : (Int × Int × Int × Int) → Option ((Int × Int) × Unit) := runFn n E_sl12Edge c_sl12Edge [[.i .i64, .i .i64, .i .i64, .i .i64]] [.i .i64, .i .i64] [] [2] .no
noncomputable def g_sl12Edge := f_sl12Edge BIG
noncomputable def p_sl12Edge : TSp := ⟨s_sl12Edge, [[.i .i64, .i .i64, .i .i64, .i .i64]], [.i .i64, .i .i64], [], Ou.j .no, g_sl12Edge⟩
theorem k_sl12Edge : chkW PG E_sl12Edge 151 s_sl12Edge (c_sl12Edge.ht 18) .no = some (c_sl12Edge.wc E_sl12Edge, [2]) := by kernel_rfl
theorem ok_sl12Edge : p_sl12Edge.Ok PG 151 := mkOk (env_nil PG) k_sl12Edge (by kernel_rfl)
theorem e_sl12Edge (n : Nat) (a0 : Int × Int × Int × Int) : f_sl12Edge n a0 =
  bif decide (a0.2.2.1 < a0.2.2.2) then
   some (a0.2.2, ())
  else some ((a0.2.2.2, a0.2.2.1), ()) := by kernel_rfl
def c_sl05Has : TC :=
 (.seq (.rg [o1 3 (.a (.t 1)),
   o1 4 (.lit [.b] [.bool false])])
 (.seq (.join [] 262128 (some [⟨4, [.b], false⟩]) (.seq (.rg [o1 5 (.lit [.i .i64] [.int .i64 (0)])])
 (.block 0 (.loop [⟨5, [.i .i64], false⟩] 262128
  (.seq (.seq (.rg [o1 6 (.copy 5),
    o1 7 (.copy 0),
    o1 8 (.len 7),
    o1 9 (.data (.bin .lss) [.t 6, .t 8])])
  (.cond (.t 9)
   .skip
   (.exit 0)))
  (.seq (.block 1 (.seq (.rg [o1 12 (.copy 0),
    o1 13 (.copy 5),
    o1 14 (.index 12 (.t 13)),
    o1 15 (.load 12 [(0, 2)] 0 (.t 14) 2 false),
    o1 16 (.load 3 [] 0 .nil 2 false),
    o1 17 (.eqA [.i, .i] (.t 15) (.t 16) false)])
  (.cond (.t 17)
   (.seq (.rg [o1 4 (.lit [.b] [.bool true])])
   .ret)
   .skip)))
  (.rg [o1 10 (.copy 5),
    o1 11 (.data (.bin .add) [.t 10, .c (.int .i64 (1))]),
    o1 5 (.copy 11)])))))))
 (.seq (.rg [o1 4 (.lit [.b] [.bool false])])
 .ret)))
def s_sl05Has : Sig := ⟨[.rd false [.sl (.own none) [.d, .d]], .rd true [.d, .d]], (.one false [.d])⟩
noncomputable def E_sl05Has : TEnv := envOf []
noncomputable def f_sl05Has (n : Nat) : (List (Int × Int)) × (Int × Int) → Option ((Bool) × Unit) := runFn n E_sl05Has c_sl05Has [[.sl [.i .i64, .i .i64]], [.i .i64, .i .i64]] [.b] [] [4] .no
noncomputable def g_sl05Has := f_sl05Has BIG
noncomputable def p_sl05Has : TSp := ⟨s_sl05Has, [[.sl [.i .i64, .i .i64]], [.i .i64, .i .i64]], [.b], [], Ou.j .no, g_sl05Has⟩
theorem k_sl05Has : chkW PG E_sl05Has 124 s_sl05Has (c_sl05Has.ht 18) .no = some (c_sl05Has.wc E_sl05Has, [4]) := by kernel_rfl
theorem ok_sl05Has : p_sl05Has.Ok PG 124 := mkOk (env_nil PG) k_sl05Has (by kernel_rfl)
theorem e_sl05Has (n : Nat) (a0 : List (Int × Int)) (a1 : Int × Int) : f_sl05Has n (a0, a1) =
  Option.bind (loopT n (X := Int) (B := (Unit) ⊕ (Bool)) (fun self1 x0 =>
    bif decide (x0 < (a0.length : Int)) then
     bnd a0.length x0 fun n2 =>
     Option.bind a0[n2]? fun y3 =>
     bif (decide (y3.1 = a1.1) && (decide (y3.2 = a1.2) && true)) then
      some (Sum.inr true)
     else self1 (IntKind.wrap .i64 (x0 + (1 : Int)))
    else some (Sum.inl ())) (0 : Int) : Option ((Unit) ⊕ (Bool))) fun y => match y with
  | .inl x4 =>
   some (false, ())
  | .inr x4 =>
   some (x4, ()) := by kernel_rfl
def c_sHasEdge : TC :=
 (.seq (.rg [o1 2 (.a (.t 0)),
   o1 3 (.a (.t 1)),
   o1 4 (.lit [.b] [.bool false])])
 (.seq (.rg [o1 5 (.idx .nil),
   o1 6 (.load 2 [] 1 (.t 5) 1 false),
   o1 7 (.load 3 [] 0 .nil 2 false),
   o3 8 124 [.t 6, .t 7],
   o1 4 (.copy 8)])
 .ret))
def s_sHasEdge : Sig := ⟨[.rd true [.d, .sl (.own none) [.d, .d]], .rd true [.d, .d]], (.one false [.d])⟩
noncomputable def E_sHasEdge : TEnv := envOf [(124, p_sl05Has)]
noncomputable def f_sHasEdge (n : Nat) : (Int × List (Int × Int)) × (Int × Int) → Option ((Bool) × Unit) := runFn n E_sHasEdge c_sHasEdge [[.i .i64, .sl [.i .i64, .i .i64]], [.i .i64, .i .i64]] [.b] [] [4] .no
noncomputable def g_sHasEdge := f_sHasEdge BIG
noncomputable def p_sHasEdge : TSp := ⟨s_sHasEdge, [[.i .i64, .sl [.i .i64, .i .i64]], [.i .i64, .i .i64]], [.b], [], Ou.j .no, g_sHasEdge⟩
theorem k_sHasEdge : chkW PG E_sHasEdge 191 s_sHasEdge (c_sHasEdge.ht 9) .no = some (c_sHasEdge.wc E_sHasEdge, [4]) := by kernel_rfl
theorem ok_sHasEdge : p_sHasEdge.Ok PG 191 := mkOk (env_cons ok_sl05Has (env_nil PG)) k_sHasEdge (by kernel_rfl)
theorem e_sHasEdge (n : Nat) (a0 : Int × List (Int × Int)) (a1 : Int × Int) : f_sHasEdge n (a0, a1) =
  Option.bind (g_sl05Has (a0.2, a1)) fun r0 =>
  some (r0.1, ()) := by kernel_rfl
def c_sl05Put : TC :=
 (.seq (.rg [o1 3 (.a (.t 1)),
   o1 4 (.lit [.sl [.i .i64, .i .i64]] [.slice none 0 0])])
 (.seq (.rg [o1 8 (.sli [.i .i64, .i .i64] []),
   ⟨false, [], [], .det 2 (.copy 8), [5, 8], (some 5), none⟩])
 (.seq (.join [⟨5, [.sl [.i .i64, .i .i64]], false⟩] 268435040 none (.seq (.rg [o1 6 (.lit [.i .i64] [.int .i64 (0)])])
 (.block 0 (.loop [⟨5, [.sl [.i .i64, .i .i64]], false⟩, ⟨6, [.i .i64], false⟩] 268435040
  (.seq (.seq (.rg [o1 9 (.copy 6),
    o1 10 (.copy 0),
    o1 11 (.len 10),
    o1 12 (.data (.bin .lss) [.t 9, .t 11])])
  (.cond (.t 12)
   .skip
   (.exit 0)))
  (.seq (.join [⟨5, [.sl [.i .i64, .i .i64]], false⟩] 268402720 none (.block 1 (.seq (.rg [o1 15 (.copy 0),
    o1 16 (.copy 6),
    o1 17 (.index 15 (.t 16)),
    o1 18 (.load 15 [(0, 2)] 0 (.t 17) 2 false),
    o1 19 (.load 3 [] 0 .nil 2 false),
    o3 20 171 [.t 18, .t 19]])
  (.cond (.t 20)
   (.rg [⟨false, [], [], .det 2 (.copy 5), [21, 5], (some 21), none⟩,
     o1 22 (.copy 0),
     o1 23 (.copy 6),
     o1 24 (.index 22 (.t 23)),
     o1 25 (.load 22 [(0, 2)] 0 (.t 24) 2 false),
     o1 26 (.sli [.i .i64, .i .i64] [.t 25]),
     ⟨false, [], [], .det 2 (.app (some 21) 26), [27, 21], (some 27), none⟩,
     ⟨false, [], [], .det 2 (.copy 27), [5, 27], (some 5), none⟩])
   .skip))))
  (.rg [o1 13 (.copy 6),
    o1 14 (.data (.bin .add) [.t 13, .c (.int .i64 (1))]),
    o1 6 (.copy 14)])))))))
 (.seq (.rg [⟨false, [], [], .det 2 (.copy 5), [28, 5], (some 28), none⟩,
   o1 29 (.load 3 [] 0 .nil 2 false),
   o1 30 (.sli [.i .i64, .i .i64] [.t 29]),
   ⟨false, [], [], .det 2 (.app (some 28) 30), [31, 28], (some 31), none⟩,
   ⟨false, [], [], .det 2 (.copy 31), [5, 31], (some 5), none⟩])
 (.seq (.join [⟨5, [.sl [.i .i64, .i .i64]], false⟩] 2251795518718112 none (.seq (.rg [o1 7 (.lit [.i .i64] [.int .i64 (0)])])
 (.block 2 (.loop [⟨5, [.sl [.i .i64, .i .i64]], false⟩, ⟨7, [.i .i64], false⟩] 2251795518718112
  (.seq (.seq (.rg [o1 32 (.copy 7),
    o1 33 (.copy 0),
    o1 34 (.len 33),
    o1 35 (.data (.bin .lss) [.t 32, .t 34])])
  (.cond (.t 35)
   .skip
   (.exit 2)))
  (.seq (.join [⟨5, [.sl [.i .i64, .i .i64]], false⟩] 2251524935778336 none (.block 3 (.seq (.rg [o1 38 (.load 3 [] 0 .nil 2 false),
    o1 39 (.copy 0),
    o1 40 (.copy 7),
    o1 41 (.index 39 (.t 40)),
    o1 42 (.load 39 [(0, 2)] 0 (.t 41) 2 false),
    o3 43 171 [.t 38, .t 42]])
  (.cond (.t 43)
   (.rg [⟨false, [], [], .det 2 (.copy 5), [44, 5], (some 44), none⟩,
     o1 45 (.copy 0),
     o1 46 (.copy 7),
     o1 47 (.index 45 (.t 46)),
     o1 48 (.load 45 [(0, 2)] 0 (.t 47) 2 false),
     o1 49 (.sli [.i .i64, .i .i64] [.t 48]),
     ⟨false, [], [], .det 2 (.app (some 44) 49), [50, 44], (some 50), none⟩,
     ⟨false, [], [], .det 2 (.copy 50), [5, 50], (some 5), none⟩])
   .skip))))
  (.rg [o1 36 (.copy 7),
    o1 37 (.data (.bin .add) [.t 36, .c (.int .i64 (1))]),
    o1 7 (.copy 37)])))))))
 (.seq (.rg [⟨false, [], [], .det 2 (.copy 5), [51, 5], (some 51), none⟩,
   ⟨false, [], [], .det 2 (.copy 51), [4, 51], (some 4), none⟩])
 .ret))))))
def s_sl05Put : Sig := ⟨[.rd false [.sl (.own none) [.d, .d]], .rd true [.d, .d]], (.one false [.sl (.own none) [.d, .d]])⟩
noncomputable def E_sl05Put : TEnv := envOf [(171, p_sl05Less)]
noncomputable def f_sl05Put (n : Nat) : (List (Int × Int)) × (Int × Int) → Option ((List (Int × Int)) × Unit) := runFn n E_sl05Put c_sl05Put [[.sl [.i .i64, .i .i64]], [.i .i64, .i .i64]] [.sl [.i .i64, .i .i64]] [] [4] .no
noncomputable def g_sl05Put := f_sl05Put BIG
noncomputable def p_sl05Put : TSp := ⟨s_sl05Put, [[.sl [.i .i64, .i .i64]], [.i .i64, .i .i64]], [.sl [.i .i64, .i .i64]], [], Ou.j .no, g_sl05Put⟩
theorem k_sl05Put : chkW PG E_sl05Put 125 s_sl05Put (c_sl05Put.ht 52) .no = some (c_sl05Put.wc E_sl05Put, [4]) := by kernel_rfl
theorem ok_sl05Put : p_sl05Put.Ok PG 125 := mkOk (env_cons ok_sl05Less (env_nil PG)) k_sl05Put (by kernel_rfl)
theorem e_sl05Put (n : Nat) (a0 : List (Int × Int)) (a1 : Int × Int) : f_sl05Put n (a0, a1) =
  Option.bind (loopT n (X := (List (Int × Int)) × Int) (B := (List (Int × Int))) (fun self1 x0 =>
    bif decide (x0.2 < (a0.length : Int)) then
     Option.bind (bnd a0.length x0.2 fun n2 =>
      Option.bind a0[n2]? fun y3 =>
      Option.bind (g_sl05Less (y3, a1)) fun r4 =>
      bif r4.1 then
       bnd a0.length x0.2 fun n5 =>
       Option.bind a0[n5]? fun y6 =>
       bif decide (x0.1.length + [y6].length ≤ 4294967296) then
        some (x0.1 ++ [y6])
       else none
      else some x0.1 : Option ((List (Int × Int)))) fun x7 =>
     self1 (x7, IntKind.wrap .i64 (x0.2 + (1 : Int)))
    else some x0.1) ([], (0 : Int)) : Option ((List (Int × Int)))) fun x8 =>
  bif decide (x8.length + [a1].length ≤ 4294967296) then
   Option.bind (loopT n (X := (List (Int × Int)) × Int) (B := (List (Int × Int))) (fun self10 x9 =>
     bif decide (x9.2 < (a0.length : Int)) then
      Option.bind (bnd a0.length x9.2 fun n11 =>
       Option.bind a0[n11]? fun y12 =>
       Option.bind (g_sl05Less (a1, y12)) fun r13 =>
       bif r13.1 then
        bnd a0.length x9.2 fun n14 =>
        Option.bind a0[n14]? fun y15 =>
        bif decide (x9.1.length + [y15].length ≤ 4294967296) then
         some (x9.1 ++ [y15])
        else none
       else some x9.1 : Option ((List (Int × Int)))) fun x16 =>
      self10 (x16, IntKind.wrap .i64 (x9.2 + (1 : Int)))
     else some x9.1) (x8 ++ [a1], (0 : Int)) : Option ((List (Int × Int)))) fun x17 =>
   some (x17, ())
  else none := by kernel_rfl
def c_sAddEdge : TC :=
 (.seq (.rg [o1 2 (.a (.t 0)),
   o1 3 (.a (.t 1)),
   ⟨false, [], [], .det 2 (.a (.c [.i .i64, .sl [.i .i64, .i .i64]] [.int .i64 (0), .slice none 0 0])), [4, 1000000001], (some 4), none⟩,
   o1 5 (.lit [.b] [.bool false])])
 (.seq (.seq (.join [⟨20, [.b], false⟩] 2097088 none (.rg [o1 6 (.load 2 [] 0 .nil 2 false),
   o3 7 127 [.t 6],
   o1 8 (.data .not [.t 7]),
   o1 9 (.copy 8),
   o2 10 (.idx .nil) 3 false,
   o2 11 (.load 2 [] 0 (.t 10) 1 false) 3 false,
   o2 12 (.load 3 [] 0 .nil 2 false) 3 false,
   ⟨false, [], [], .call 1 126 [.t 11, .t 12] .no, [13], (some 13), some (3, false)⟩,
   o2 14 (.data .not [.t 13]) 3 false,
   ⟨false, [], [], .pick 9 (.c (.bool true)) (.t 14), [15], (some 15), none⟩,
   o1 16 (.copy 15),
   o2 17 (.load 2 [] 0 .nil 2 false) 10 false,
   o2 18 (.load 3 [] 0 .nil 2 false) 10 false,
   ⟨false, [], [], .call 1 191 [.t 17, .t 18] .no, [19], (some 19), some (10, false)⟩,
   ⟨false, [], [], .pick 16 (.c (.bool true)) (.t 19), [20], (some 20), none⟩]))
 (.cond (.t 20)
  (.seq (.rg [o1 21 (.build [.i .i64, .sl [.i .i64, .i .i64]] []),
    o4 2 [4, 21] (.store 4 [] 0 .nil (.t 21)),
    o1 5 (.lit [.b] [.bool false])])
  .ret)
  .skip))
 (.seq (.rg [o1 22 (.idx .nil),
   o1 23 (.load 2 [] 0 (.t 22) 1 false),
   o1 24 (.idx .nil),
   o1 25 (.load 2 [] 1 (.t 24) 1 false),
   o1 26 (.load 3 [] 0 .nil 2 false),
   o3 27 125 [.t 25, .t 26],
   ⟨false, [], [], .det 2 (.build [.i .i64, .sl [.i .i64, .i .i64]] [(0, .t 23), (1, .t 27)]), [28, 27], (some 28), none⟩,
   o4 2 [4, 28] (.store 4 [] 0 .nil (.t 28)),
   o1 5 (.lit [.b] [.bool true])])
 .ret)))
def s_sAddEdge : Sig := ⟨[.rd true [.d, .sl (.own none) [.d, .d]], .rd true [.d, .d]], (.tup [(true, 2), (false, 1)] [.d, .sl (.own none) [.d, .d], .d])⟩
noncomputable def E_sAddEdge : TEnv := envOf [(127, p_sGraphOk), (126, p_sEdgeOk), (191, p_sHasEdge), (125, p_sl05Put)]
noncomputable def f_sAddEdge (n : Nat) : (Int × List (Int × Int)) × (Int × Int) → Option ((Int × List (Int × Int) × Bool) × Unit) := runFn n E_sAddEdge c_sAddEdge [[.i .i64, .sl [.i .i64, .i .i64]], [.i .i64, .i .i64]] [.i .i64, .sl [.i .i64, .i .i64], .b] [] [4, 5] .no
noncomputable def g_sAddEdge := f_sAddEdge BIG
noncomputable def p_sAddEdge : TSp := ⟨s_sAddEdge, [[.i .i64, .sl [.i .i64, .i .i64]], [.i .i64, .i .i64]], [.i .i64, .sl [.i .i64, .i .i64], .b], [], Ou.j .no, g_sAddEdge⟩
theorem k_sAddEdge : chkW PG E_sAddEdge 169 s_sAddEdge (c_sAddEdge.ht 29) .no = some (c_sAddEdge.wc E_sAddEdge, [4, 5]) := by kernel_rfl
theorem ok_sAddEdge : p_sAddEdge.Ok PG 169 := mkOk (env_cons ok_sGraphOk (env_cons ok_sEdgeOk (env_cons ok_sHasEdge (env_cons ok_sl05Put (env_nil PG))))) k_sAddEdge (by kernel_rfl)
theorem e_sAddEdge (n : Nat) (a0 : Int × List (Int × Int)) (a1 : Int × Int) : f_sAddEdge n (a0, a1) =
  Option.bind (Option.bind (g_sGraphOk a0) fun r0 =>
   bif !r0.1 then
    some true
   else Option.bind (g_sEdgeOk (a0.1, a1)) fun r1 =>
   bif !r1.1 then
    some true
   else Option.bind (g_sHasEdge (a0, a1)) fun r2 =>
   some r2.1 : Option (Bool)) fun x3 =>
  bif x3 then
   some (((0 : Int), [], false), ())
  else Option.bind (g_sl05Put (a0.2, a1)) fun r4 =>
  some ((a0.1, r4.1, true), ()) := by kernel_rfl
def c_sl05Without : TC :=
 (.seq (.rg [o1 3 (.a (.t 1)),
   o1 4 (.lit [.sl [.i .i64, .i .i64]] [.slice none 0 0])])
 (.seq (.rg [o1 7 (.sli [.i .i64, .i .i64] []),
   ⟨false, [], [], .det 2 (.copy 7), [5, 7], (some 5), none⟩])
 (.seq (.join [⟨5, [.sl [.i .i64, .i .i64]], false⟩] 134217568 none (.seq (.rg [o1 6 (.lit [.i .i64] [.int .i64 (0)])])
 (.block 0 (.loop [⟨5, [.sl [.i .i64, .i .i64]], false⟩, ⟨6, [.i .i64], false⟩] 134217568
  (.seq (.seq (.rg [o1 8 (.copy 6),
    o1 9 (.copy 0),
    o1 10 (.len 9),
    o1 11 (.data (.bin .lss) [.t 8, .t 10])])
  (.cond (.t 11)
   .skip
   (.exit 0)))
  (.seq (.join [⟨5, [.sl [.i .i64, .i .i64]], false⟩] 134201376 none (.block 1 (.seq (.rg [o1 14 (.copy 0),
    o1 15 (.copy 6),
    o1 16 (.index 14 (.t 15)),
    o1 17 (.load 14 [(0, 2)] 0 (.t 16) 2 false),
    o1 18 (.load 3 [] 0 .nil 2 false),
    o1 19 (.eqA [.i, .i] (.t 17) (.t 18) true)])
  (.cond (.t 19)
   (.rg [⟨false, [], [], .det 2 (.copy 5), [20, 5], (some 20), none⟩,
     o1 21 (.copy 0),
     o1 22 (.copy 6),
     o1 23 (.index 21 (.t 22)),
     o1 24 (.load 21 [(0, 2)] 0 (.t 23) 2 false),
     o1 25 (.sli [.i .i64, .i .i64] [.t 24]),
     ⟨false, [], [], .det 2 (.app (some 20) 25), [26, 20], (some 26), none⟩,
     ⟨false, [], [], .det 2 (.copy 26), [5, 26], (some 5), none⟩])
   .skip))))
  (.rg [o1 12 (.copy 6),
    o1 13 (.data (.bin .add) [.t 12, .c (.int .i64 (1))]),
    o1 6 (.copy 13)])))))))
 (.seq (.rg [⟨false, [], [], .det 2 (.copy 5), [27, 5], (some 27), none⟩,
   ⟨false, [], [], .det 2 (.copy 27), [4, 27], (some 4), none⟩])
 .ret))))
def s_sl05Without : Sig := ⟨[.rd false [.sl (.own none) [.d, .d]], .rd true [.d, .d]], (.one false [.sl (.own none) [.d, .d]])⟩
noncomputable def E_sl05Without : TEnv := envOf []
noncomputable def f_sl05Without (n : Nat) : (List (Int × Int)) × (Int × Int) → Option ((List (Int × Int)) × Unit) := runFn n E_sl05Without c_sl05Without [[.sl [.i .i64, .i .i64]], [.i .i64, .i .i64]] [.sl [.i .i64, .i .i64]] [] [4] .no
noncomputable def g_sl05Without := f_sl05Without BIG
noncomputable def p_sl05Without : TSp := ⟨s_sl05Without, [[.sl [.i .i64, .i .i64]], [.i .i64, .i .i64]], [.sl [.i .i64, .i .i64]], [], Ou.j .no, g_sl05Without⟩
theorem k_sl05Without : chkW PG E_sl05Without 152 s_sl05Without (c_sl05Without.ht 28) .no = some (c_sl05Without.wc E_sl05Without, [4]) := by kernel_rfl
theorem ok_sl05Without : p_sl05Without.Ok PG 152 := mkOk (env_nil PG) k_sl05Without (by kernel_rfl)
theorem e_sl05Without (n : Nat) (a0 : List (Int × Int)) (a1 : Int × Int) : f_sl05Without n (a0, a1) =
  Option.bind (loopT n (X := (List (Int × Int)) × Int) (B := (List (Int × Int))) (fun self1 x0 =>
    bif decide (x0.2 < (a0.length : Int)) then
     Option.bind (bnd a0.length x0.2 fun n2 =>
      Option.bind a0[n2]? fun y3 =>
      bif !(decide (y3.1 = a1.1) && (decide (y3.2 = a1.2) && true)) then
       bnd a0.length x0.2 fun n4 =>
       Option.bind a0[n4]? fun y5 =>
       bif decide (x0.1.length + [y5].length ≤ 4294967296) then
        some (x0.1 ++ [y5])
       else none
      else some x0.1 : Option ((List (Int × Int)))) fun x6 =>
     self1 (x6, IntKind.wrap .i64 (x0.2 + (1 : Int)))
    else some x0.1) ([], (0 : Int)) : Option ((List (Int × Int)))) fun x7 =>
  some (x7, ()) := by kernel_rfl
def c_sTakeEdge : TC :=
 (.seq (.rg [o1 2 (.a (.t 0)),
   o1 3 (.a (.t 1)),
   ⟨false, [], [], .det 2 (.a (.c [.i .i64, .sl [.i .i64, .i .i64]] [.int .i64 (0), .slice none 0 0])), [4, 1000000001], (some 4), none⟩,
   o1 5 (.lit [.b] [.bool false])])
 (.seq (.seq (.join [⟨14, [.b], false⟩] 32704 none (.rg [o1 6 (.load 2 [] 0 .nil 2 false),
   o3 7 127 [.t 6],
   o1 8 (.data .not [.t 7]),
   o1 9 (.copy 8),
   o2 10 (.load 2 [] 0 .nil 2 false) 3 false,
   o2 11 (.load 3 [] 0 .nil 2 false) 3 false,
   ⟨false, [], [], .call 1 191 [.t 10, .t 11] .no, [12], (some 12), some (3, false)⟩,
   o2 13 (.data .not [.t 12]) 3 false,
   ⟨false, [], [], .pick 9 (.c (.bool true)) (.t 13), [14], (some 14), none⟩]))
 (.cond (.t 14)
  (.seq (.rg [o1 15 (.build [.i .i64, .sl [.i .i64, .i .i64]] []),
    o4 2 [4, 15] (.store 4 [] 0 .nil (.t 15)),
    o1 5 (.lit [.b] [.bool false])])
  .ret)
  .skip))
 (.seq (.rg [o1 16 (.idx .nil),
   o1 17 (.load 2 [] 0 (.t 16) 1 false),
   o1 18 (.idx .nil),
   o1 19 (.load 2 [] 1 (.t 18) 1 false),
   o1 20 (.load 3 [] 0 .nil 2 false),
   o3 21 152 [.t 19, .t 20],
   ⟨false, [], [], .det 2 (.build [.i .i64, .sl [.i .i64, .i .i64]] [(0, .t 17), (1, .t 21)]), [22, 21], (some 22), none⟩,
   o4 2 [4, 22] (.store 4 [] 0 .nil (.t 22)),
   o1 5 (.lit [.b] [.bool true])])
 .ret)))
def s_sTakeEdge : Sig := ⟨[.rd true [.d, .sl (.own none) [.d, .d]], .rd true [.d, .d]], (.tup [(true, 2), (false, 1)] [.d, .sl (.own none) [.d, .d], .d])⟩
noncomputable def E_sTakeEdge : TEnv := envOf [(127, p_sGraphOk), (191, p_sHasEdge), (152, p_sl05Without)]
noncomputable def f_sTakeEdge (n : Nat) : (Int × List (Int × Int)) × (Int × Int) → Option ((Int × List (Int × Int) × Bool) × Unit) := runFn n E_sTakeEdge c_sTakeEdge [[.i .i64, .sl [.i .i64, .i .i64]], [.i .i64, .i .i64]] [.i .i64, .sl [.i .i64, .i .i64], .b] [] [4, 5] .no
noncomputable def g_sTakeEdge := f_sTakeEdge BIG
noncomputable def p_sTakeEdge : TSp := ⟨s_sTakeEdge, [[.i .i64, .sl [.i .i64, .i .i64]], [.i .i64, .i .i64]], [.i .i64, .sl [.i .i64, .i .i64], .b], [], Ou.j .no, g_sTakeEdge⟩
theorem k_sTakeEdge : chkW PG E_sTakeEdge 170 s_sTakeEdge (c_sTakeEdge.ht 23) .no = some (c_sTakeEdge.wc E_sTakeEdge, [4, 5]) := by kernel_rfl
theorem ok_sTakeEdge : p_sTakeEdge.Ok PG 170 := mkOk (env_cons ok_sGraphOk (env_cons ok_sHasEdge (env_cons ok_sl05Without (env_nil PG)))) k_sTakeEdge (by kernel_rfl)
theorem e_sTakeEdge (n : Nat) (a0 : Int × List (Int × Int)) (a1 : Int × Int) : f_sTakeEdge n (a0, a1) =
  Option.bind (Option.bind (g_sGraphOk a0) fun r0 =>
   bif !r0.1 then
    some true
   else Option.bind (g_sHasEdge (a0, a1)) fun r1 =>
   some !r1.1 : Option (Bool)) fun x2 =>
  bif x2 then
   some (((0 : Int), [], false), ())
  else Option.bind (g_sl05Without (a0.2, a1)) fun r3 =>
  some ((a0.1, r3.1, true), ()) := by kernel_rfl
def c_sModel : TC :=
 (.seq (.rg [o1 2 (.a (.t 0)),
   o1 3 (.a (.t 1)),
   ⟨false, [], [], .det 2 (.a (.c [.i .i64, .sl [.i .i64, .i .i64]] [.int .i64 (0), .slice none 0 0])), [4, 1000000001], (some 4), none⟩,
   o1 5 (.lit [.i .i64] [.int .i64 (0)])])
 (.seq (.rg [⟨false, [], [1000000001], .det 1 (.idx .nil), [9], (some 9), none⟩,
   ⟨false, [], [1000000001], .det 1 (.load 2 [] 0 (.t 9) 1 false), [10], (some 10), none⟩,
   ⟨false, [], [1000000001], .det 1 (.sli [.i .i64, .i .i64] []), [11], (some 11), none⟩,
   ⟨false, [], [1000000001], .det 1 (.idx .nil), [12], (some 12), none⟩,
   ⟨false, [], [1000000001], .det 1 (.load 2 [] 1 (.t 12) 1 false), [13], (some 13), none⟩,
   ⟨false, [], [1000000001], .det 2 (.app (some 11) 13), [14, 11], (some 14), none⟩,
   ⟨false, [], [1000000001], .det 2 (.build [.i .i64, .sl [.i .i64, .i .i64]] [(0, .t 10), (1, .t 14)]), [15, 14], (some 15), none⟩,
   ⟨false, [], [], .det 2 (.a (.c [.i .i64, .sl [.i .i64, .i .i64]] [.int .i64 (0), .slice none 0 0])), [6, 1000000001], (some 6), none⟩,
   o4 2 [6, 15] (.store 6 [] 0 .nil (.t 15))])
 (.seq (.seq (.join [⟨32, [.b], false⟩] 8589869056 none (.rg [o1 16 (.idx .nil),
   o1 17 (.load 3 [] 1 (.t 16) 1 false),
   o3 18 89 [.t 17, .c [.i .i64] [.int .i64 (1)], .c [.i .i64] [.int .i64 (4)]],
   o1 19 (.data .not [.t 18]),
   o1 20 (.copy 19),
   o2 21 (.idx .nil) 4 false,
   o2 22 (.load 3 [] 2 (.t 21) 1 false) 4 false,
   o2 23 (.data (.bin .geq) [.t 22, .c (.int .i64 (0))]) 4 false,
   o2 24 (.copy 23) 4 false,
   o2 25 (.idx .nil) 8 true,
   o2 26 (.load 3 [] 2 (.t 25) 1 false) 8 true,
   o2 27 (.idx .nil) 8 true,
   o2 28 (.load 2 [] 0 (.t 27) 1 false) 8 true,
   o2 29 (.data (.bin .lss) [.t 26, .t 28]) 8 true,
   ⟨false, [], [], .pick 24 (.t 29) (.c (.bool false)), [30], (some 30), some (4, false)⟩,
   o2 31 (.data .not [.t 30]) 4 false,
   ⟨false, [], [], .pick 20 (.c (.bool true)) (.t 31), [32], (some 32), none⟩]))
 (.cond (.t 32)
  (.seq (.rg [o1 33 (.load 6 [] 0 .nil 2 true),
    ⟨false, [33], [], .det 2 (.store 4 [] 0 .nil (.t 33)), [4, 33, 33, 6], none, none⟩,
    o1 5 (.lit [.i .i64] [.int .i64 (3)])])
  .ret)
  .skip))
 (.seq (.seq (.rg [o1 34 (.idx .nil),
   o1 35 (.load 3 [] 1 (.t 34) 1 false),
   o1 36 (.data (.bin .eql) [.t 35, .c (.int .i64 (4))])])
 (.cond (.t 36)
  (.seq (.seq (.rg [o1 37 (.idx .nil),
    o1 38 (.load 3 [] 3 (.t 37) 1 false),
    o3 39 89 [.t 38, .c [.i .i64] [.int .i64 (1)], .c [.i .i64] [.int .i64 (3)]],
    o1 40 (.data .not [.t 39])])
  (.cond (.t 40)
   (.seq (.rg [o1 41 (.load 6 [] 0 .nil 2 true),
     ⟨false, [41], [], .det 2 (.store 4 [] 0 .nil (.t 41)), [4, 41, 41, 6], none, none⟩,
     o1 5 (.lit [.i .i64] [.int .i64 (3)])])
   .ret)
   .skip))
  (.seq (.rg [o1 42 (.load 6 [] 0 .nil 2 true),
    ⟨false, [42], [], .det 2 (.store 4 [] 0 .nil (.t 42)), [4, 42, 42, 6], none, none⟩,
    o1 5 (.lit [.i .i64] [.int .i64 (1)])])
  .ret))
  .skip))
 (.seq (.seq (.join [⟨65, [.b], false⟩] 73786967498745184256 none (.rg [o1 43 (.idx .nil),
   o1 44 (.load 3 [] 3 (.t 43) 1 false),
   o1 45 (.data (.bin .geq) [.t 44, .c (.int .i64 (0))]),
   o1 46 (.copy 45),
   o2 47 (.idx .nil) 3 true,
   o2 48 (.load 3 [] 3 (.t 47) 1 false) 3 true,
   o2 49 (.idx .nil) 3 true,
   o2 50 (.load 2 [] 0 (.t 49) 1 false) 3 true,
   o2 51 (.data (.bin .lss) [.t 48, .t 50]) 3 true,
   ⟨false, [], [], .pick 46 (.t 51) (.c (.bool false)), [52], (some 52), none⟩,
   o1 53 (.data .not [.t 52]),
   o1 54 (.copy 53),
   o2 55 (.idx .nil) 11 false,
   o2 56 (.load 3 [] 2 (.t 55) 1 false) 11 false,
   o2 57 (.idx .nil) 11 false,
   o2 58 (.load 3 [] 3 (.t 57) 1 false) 11 false,
   o2 59 (.data (.bin .eql) [.t 56, .t 58]) 11 false,
   o2 60 (.copy 59) 11 false,
   o2 61 (.idx .nil) 17 true,
   o2 62 (.load 3 [] 1 (.t 61) 1 false) 17 true,
   o2 63 (.data (.bin .neq) [.t 62, .c (.int .i64 (3))]) 17 true,
   ⟨false, [], [], .pick 60 (.t 63) (.c (.bool false)), [64], (some 64), some (11, false)⟩,
   ⟨false, [], [], .pick 54 (.c (.bool true)) (.t 64), [65], (some 65), none⟩]))
 (.cond (.t 65)
  (.seq (.rg [o1 66 (.load 6 [] 0 .nil 2 true),
    ⟨false, [66], [], .det 2 (.store 4 [] 0 .nil (.t 66)), [4, 66, 66, 6], none, none⟩,
    o1 5 (.lit [.i .i64] [.int .i64 (3)])])
  .ret)
  .skip))
 (.seq (.seq (.rg [o1 67 (.idx .nil),
   o1 68 (.load 3 [] 1 (.t 67) 1 false),
   o1 69 (.data (.bin .eql) [.t 68, .c (.int .i64 (3))])])
 (.cond (.t 69)
  (.seq (.seq (.rg [o1 70 (.load 2 [] 0 .nil 2 false),
    o1 71 (.idx .nil),
    o1 72 (.load 3 [] 2 (.t 71) 1 false),
    o1 73 (.idx .nil),
    o1 74 (.load 3 [] 3 (.t 73) 1 false),
    o3 75 168 [.t 70, .t 72, .t 74]])
  (.cond (.t 75)
   (.seq (.rg [o1 76 (.load 6 [] 0 .nil 2 true),
     ⟨false, [76], [], .det 2 (.store 4 [] 0 .nil (.t 76)), [4, 76, 76, 6], none, none⟩,
     o1 5 (.lit [.i .i64] [.int .i64 (1)])])
   .ret)
   .skip))
  (.seq (.rg [o1 77 (.load 6 [] 0 .nil 2 true),
    ⟨false, [77], [], .det 2 (.store 4 [] 0 .nil (.t 77)), [4, 77, 77, 6], none, none⟩,
    o1 5 (.lit [.i .i64] [.int .i64 (2)])])
  .ret))
  .skip))
 (.seq (.rg [⟨false, [], [1000000001], .det 1 (.load 2 [] 0 .nil 2 false), [79], (some 79), none⟩,
   ⟨false, [], [1000000001], .det 1 (.load 3 [] 0 .nil 4 false), [80], (some 80), none⟩,
   ⟨false, [], [1000000001], .call 1 151 [.t 80] .no, [81], (some 81), none⟩,
   ⟨false, [], [1000000001], .call 1 169 [.t 79, .t 81] .no, [82], (some 82), none⟩,
   ⟨false, [], [1000000001], .det 2 (.copy 82), [78, 82], (some 78), none⟩,
   ⟨false, [], [1000000001], .det 2 (.ext 78 0 2), [83, 78], (some 83), none⟩,
   ⟨false, [], [1000000001], .det 1 (.ext 78 2 1), [84], (some 84), none⟩,
   ⟨false, [], [], .det 2 (.a (.c [.i .i64, .sl [.i .i64, .i .i64]] [.int .i64 (0), .slice none 0 0])), [7, 1000000001], (some 7), none⟩,
   o4 2 [7, 83] (.store 7 [] 0 .nil (.t 83)),
   o1 8 (.copy 84)])
 (.seq (.join [⟨7, [.i .i64, .sl [.i .i64, .i .i64]], false⟩, ⟨8, [.b], false⟩] 39575395630904500663181377920 none (.seq (.rg [o1 85 (.idx .nil),
   o1 86 (.load 3 [] 1 (.t 85) 1 false),
   o1 87 (.data (.bin .eql) [.t 86, .c (.int .i64 (2))])])
 (.cond (.t 87)
  (.rg [o1 89 (.load 2 [] 0 .nil 2 false),
    o1 90 (.load 3 [] 0 .nil 4 false),
    o3 91 151 [.t 90],
    o3 92 170 [.t 89, .t 91],
    ⟨false, [], [], .det 2 (.copy 92), [88, 92], (some 88), none⟩,
    ⟨false, [], [], .det 2 (.ext 88 0 2), [93, 88], (some 93), none⟩,
    o1 94 (.ext 88 2 1),
    o4 2 [7, 93] (.store 7 [] 0 .nil (.t 93)),
    o1 8 (.copy 94)])
  .skip)))
 (.seq (.seq (.rg [o1 95 (.copy 8),
   o1 96 (.data .not [.t 95])])
 (.cond (.t 96)
  (.seq (.rg [o1 97 (.load 6 [] 0 .nil 2 true),
    ⟨false, [97], [], .det 2 (.store 4 [] 0 .nil (.t 97)), [4, 97, 97, 6], none, none⟩,
    o1 5 (.lit [.i .i64] [.int .i64 (2)])])
  .ret)
  .skip))
 (.seq (.rg [o1 98 (.load 7 [] 0 .nil 2 true),
   ⟨false, [98], [], .det 2 (.store 4 [] 0 .nil (.t 98)), [4, 98, 98, 7], none, none⟩,
   o1 5 (.lit [.i .i64] [.int .i64 (1)])])
 .ret))))))))))
def s_sModel : Sig := ⟨[.rd true [.d, .sl (.own none) [.d, .d]], .rd true [.d, .d, .d, .d]], (.tup [(true, 2), (false, 1)] [.d, .sl (.own none) [.d, .d], .d])⟩
noncomputable def E_sModel : TEnv := envOf [(89, p_sl01In), (168, p_sTogether), (151, p_sl12Edge), (169, p_sAddEdge), (170, p_sTakeEdge)]
noncomputable def f_sModel (n : Nat) : (Int × List (Int × Int)) × (Int × Int × Int × Int) → Option ((Int × List (Int × Int) × Int) × Unit) := runFn n E_sModel c_sModel [[.i .i64, .sl [.i .i64, .i .i64]], [.i .i64, .i .i64, .i .i64, .i .i64]] [.i .i64, .sl [.i .i64, .i .i64], .i .i64] [] [4, 5] .no
noncomputable def g_sModel := f_sModel BIG
noncomputable def p_sModel : TSp := ⟨s_sModel, [[.i .i64, .sl [.i .i64, .i .i64]], [.i .i64, .i .i64, .i .i64, .i .i64]], [.i .i64, .sl [.i .i64, .i .i64], .i .i64], [], Ou.j .no, g_sModel⟩
theorem k_sModel : chkW PG E_sModel 122 s_sModel (c_sModel.ht 99) .no = some (c_sModel.wc E_sModel, [4, 5]) := by kernel_rfl
theorem ok_sModel : p_sModel.Ok PG 122 := mkOk (env_cons ok_sl01In (env_cons ok_sTogether (env_cons ok_sl12Edge (env_cons ok_sAddEdge (env_cons ok_sTakeEdge (env_nil PG)))))) k_sModel (by kernel_rfl)
theorem e_sModel (n : Nat) (a0 : Int × List (Int × Int)) (a1 : Int × Int × Int × Int) : f_sModel n (a0, a1) =
  bif decide (0 + a0.2.length ≤ 4294967296) then
   Option.bind (Option.bind (g_sl01In (a1.2.1, (1 : Int), (4 : Int))) fun r0 =>
    bif !r0.1 then
     some true
    else bif decide ((0 : Int) ≤ a1.2.2.1) then
     some (!(decide (a1.2.2.1 < a0.1)))
    else some true : Option (Bool)) fun x1 =>
   bif x1 then
    some ((a0.1, [] ++ a0.2, (3 : Int)), ())
   else bif decide (a1.2.1 = (4 : Int)) then
    Option.bind (g_sl01In (a1.2.2.2, (1 : Int), (3 : Int))) fun r2 =>
    bif !r2.1 then
     some ((a0.1, [] ++ a0.2, (3 : Int)), ())
    else some ((a0.1, [] ++ a0.2, (1 : Int)), ())
   else Option.bind (bif decide ((0 : Int) ≤ a1.2.2.2) then
     bif !(decide (a1.2.2.2 < a0.1)) then
      some true
     else bif decide (a1.2.2.1 = a1.2.2.2) then
      some (!decide (a1.2.1 = (3 : Int)))
     else some false
    else some true : Option (Bool)) fun x3 =>
   bif x3 then
    some ((a0.1, [] ++ a0.2, (3 : Int)), ())
   else bif decide (a1.2.1 = (3 : Int)) then
    Option.bind (g_sTogether (a0, a1.2.2.1, a1.2.2.2)) fun r4 =>
    bif r4.1 then
     some ((a0.1, [] ++ a0.2, (1 : Int)), ())
    else some ((a0.1, [] ++ a0.2, (2 : Int)), ())
   else Option.bind (g_sl12Edge a1) fun r5 =>
   Option.bind (g_sAddEdge (a0, r5.1)) fun r6 =>
   Option.bind (bif decide (a1.2.1 = (2 : Int)) then
     Option.bind (g_sl12Edge a1) fun r7 =>
     Option.bind (g_sTakeEdge (a0, r7.1)) fun r8 =>
     some ((r8.1.1, r8.1.2.1), r8.1.2.2)
    else some ((r6.1.1, r6.1.2.1), r6.1.2.2) : Option ((Int × List (Int × Int)) × Bool)) fun x9 =>
   bif !x9.2 then
    some ((a0.1, [] ++ a0.2, (2 : Int)), ())
   else some ((x9.1.1, x9.1.2, (1 : Int)), ())
  else none := by kernel_rfl
def c_sl15Graph : TC :=
 (.seq (.rg [⟨false, [], [], .det 2 (.a (.c [.i .i64, .sl [.i .i64, .i .i64]] [.int .i64 (0), .slice none 0 0])), [4, 1000000001], (some 4), none⟩,
   o1 5 (.lit [.b] [.bool false])])
 (.seq (.rg [o1 11 (.copy 0),
   o1 12 (.build [.i .i64, .sl [.i .i64, .i .i64]] [(0, .t 11)]),
   ⟨false, [], [], .det 2 (.a (.c [.i .i64, .sl [.i .i64, .i .i64]] [.int .i64 (0), .slice none 0 0])), [6, 1000000001], (some 6), none⟩,
   o4 2 [6, 12] (.store 6 [] 0 .nil (.t 12))])
 (.seq (.join [⟨4, [.i .i64, .sl [.i .i64, .i .i64]], false⟩, ⟨6, [.i .i64, .sl [.i .i64, .i .i64]], false⟩] 35184372082672 (some [⟨4, [.i .i64, .sl [.i .i64, .i .i64]], false⟩, ⟨5, [.b], false⟩]) (.seq (.rg [o1 7 (.lit [.i .i64] [.int .i64 (0)])])
 (.block 0 (.loop [⟨4, [.i .i64, .sl [.i .i64, .i .i64]], false⟩, ⟨6, [.i .i64, .sl [.i .i64, .i .i64]], false⟩, ⟨7, [.i .i64], false⟩] 35184372082672
  (.seq (.seq (.rg [o1 13 (.copy 7),
    o1 14 (.copy 1),
    o1 15 (.len 14),
    o1 16 (.data (.bin .lss) [.t 13, .t 15])])
  (.cond (.t 16)
   .skip
   (.exit 0)))
  (.seq (.join [⟨4, [.i .i64, .sl [.i .i64, .i .i64]], false⟩, ⟨6, [.i .i64, .sl [.i .i64, .i .i64]], false⟩] 35184371566448 (some [⟨4, [.i .i64, .sl [.i .i64, .i .i64]], false⟩, ⟨5, [.b], false⟩]) (.block 1 (.seq (.rg [o1 19 (.copy 1),
    o1 20 (.copy 7),
    o1 21 (.index 19 (.t 20)),
    o1 22 (.load 19 [(0, 6)] 0 (.t 21) 6 false),
    ⟨false, [], [], .det 2 (.a (.c [.i .i64, .i .i64, .i .i64, .i .i64, .i .i64, .i .i64] [.int .i64 (0), .int .i64 (0), .int .i64 (0), .int .i64 (0), .int .i64 (0), .int .i64 (0)])), [8, 1000000001], (some 8), none⟩,
    o4 1 [8] (.store 8 [] 0 .nil (.t 22))])
  (.seq (.seq (.rg [o1 23 (.idx .nil),
    o1 24 (.load 8 [] 5 (.t 23) 1 false),
    o1 25 (.data (.bin .eql) [.t 24, .c (.int .i64 (3))])])
  (.cond (.t 25)
   (.exit 1)
   .skip))
  (.seq (.rg [o1 27 (.load 6 [] 0 .nil 2 true),
    o1 28 (.idx .nil),
    o1 29 (.load 8 [] 1 (.t 28) 4 false),
    o3 30 122 [.t 27, .t 29],
    ⟨false, [], [], .det 2 (.copy 30), [26, 30], (some 26), none⟩,
    ⟨false, [], [], .det 2 (.ext 26 0 2), [31, 26], (some 31), none⟩,
    o1 32 (.ext 26 2 1),
    ⟨false, [], [], .det 2 (.a (.c [.i .i64, .sl [.i .i64, .i .i64]] [.int .i64 (0), .slice none 0 0])), [9, 1000000001], (some 9), none⟩,
    o4 2 [9, 31] (.store 9 [] 0 .nil (.t 31)),
    o1 10 (.copy 32)])
  (.seq (.seq (.join [⟨42, [.b], false⟩] 8787503087616 none (.rg [o1 33 (.copy 10),
    o1 34 (.idx .nil),
    o1 35 (.load 8 [] 5 (.t 34) 1 false),
    o1 36 (.data (.bin .neq) [.t 33, .t 35]),
    o1 37 (.copy 36),
    o2 38 (.idx .nil) 4 true,
    o2 39 (.idx (.t 38)) 4 true,
    o2 40 (.load 8 [] 2 (.t 39) 1 false) 4 true,
    o2 41 (.data (.bin .neq) [.t 40, .c (.int .i64 (4))]) 4 true,
    ⟨false, [], [], .pick 37 (.t 41) (.c (.bool false)), [42], (some 42), none⟩]))
  (.cond (.t 42)
   (.seq (.rg [o1 43 (.build [.i .i64, .sl [.i .i64, .i .i64]] []),
     o4 2 [4, 43] (.store 4 [] 0 .nil (.t 43)),
     o1 5 (.lit [.b] [.bool false])])
   .ret)
   .skip))
  (.rg [o1 44 (.load 9 [] 0 .nil 2 true),
    ⟨false, [44], [], .det 2 (.store 6 [] 0 .nil (.t 44)), [6, 44, 44, 9, 27], none, none⟩])))))))
  (.rg [o1 17 (.copy 7),
    o1 18 (.data (.bin .add) [.t 17, .c (.int .i64 (1))]),
    o1 7 (.copy 18)])))))))
 (.seq (.rg [o1 45 (.load 6 [] 0 .nil 2 true),
   ⟨false, [45], [], .det 2 (.store 4 [] 0 .nil (.t 45)), [4, 45, 45, 6], none, none⟩,
   o1 5 (.lit [.b] [.bool true])])
 .ret))))
def s_sl15Graph : Sig := ⟨[.rd false [.d], .rd false [.sl (.own none) [.d, .d, .d, .d, .d, .d]]], (.tup [(true, 2), (false, 1)] [.d, .sl (.own none) [.d, .d], .d])⟩
noncomputable def E_sl15Graph : TEnv := envOf [(122, p_sModel)]
noncomputable def f_sl15Graph (n : Nat) : Int × (List (Int × Int × Int × Int × Int × Int)) → Option ((Int × List (Int × Int) × Bool) × Unit) := runFn n E_sl15Graph c_sl15Graph [[.i .i64], [.sl [.i .i64, .i .i64, .i .i64, .i .i64, .i .i64, .i .i64]]] [.i .i64, .sl [.i .i64, .i .i64], .b] [] [4, 5] .no
noncomputable def g_sl15Graph := f_sl15Graph BIG
noncomputable def p_sl15Graph : TSp := ⟨s_sl15Graph, [[.i .i64], [.sl [.i .i64, .i .i64, .i .i64, .i .i64, .i .i64, .i .i64]]], [.i .i64, .sl [.i .i64, .i .i64], .b], [], Ou.j .no, g_sl15Graph⟩
theorem k_sl15Graph : chkW PG E_sl15Graph 55 s_sl15Graph (c_sl15Graph.ht 46) .no = some (c_sl15Graph.wc E_sl15Graph, [4, 5]) := by kernel_rfl
theorem ok_sl15Graph : p_sl15Graph.Ok PG 55 := mkOk (env_cons ok_sModel (env_nil PG)) k_sl15Graph (by kernel_rfl)
theorem e_sl15Graph (n : Nat) (a0 : Int) (a1 : List (Int × Int × Int × Int × Int × Int)) : f_sl15Graph n (a0, a1) =
  Option.bind (loopT n (X := (Int × List (Int × Int)) × (Int × List (Int × Int)) × Int) (B := ((Int × List (Int × Int)) × (Int × List (Int × Int))) ⊕ ((Int × List (Int × Int)) × Bool)) (fun self1 x0 =>
    bif decide (x0.2.2 < (a1.length : Int)) then
     Option.bind (bnd a1.length x0.2.2 fun n2 =>
      Option.bind a1[n2]? fun y3 =>
      bif decide (y3.2.2.2.2.2 = (3 : Int)) then
       some (Sum.inl (x0.1, x0.2.1))
      else Option.bind (g_sModel (x0.2.1, (y3.2.1, y3.2.2.1, y3.2.2.2.1, y3.2.2.2.2.1))) fun r4 =>
      Option.bind (bif !decide (r4.1.2.2 = y3.2.2.2.2.2) then
        some (!decide (y3.2.2.1 = (4 : Int)))
       else some false : Option (Bool)) fun x5 =>
      bif x5 then
       some (Sum.inr (((0 : Int), []), false))
      else some (Sum.inl (x0.1, (r4.1.1, r4.1.2.1))) : Option (((Int × List (Int × Int)) × (Int × List (Int × Int))) ⊕ ((Int × List (Int × Int)) × Bool))) fun y => match y with
     | .inl x6 =>
      self1 (x6.1, x6.2, IntKind.wrap .i64 (x0.2.2 + (1 : Int)))
     | .inr x6 =>
      some (Sum.inr (x6.1, x6.2))
    else some (Sum.inl (x0.1, x0.2.1))) (((0 : Int), []), (a0, []), (0 : Int)) : Option (((Int × List (Int × Int)) × (Int × List (Int × Int))) ⊕ ((Int × List (Int × Int)) × Bool))) fun y => match y with
  | .inl x7 =>
   some ((x7.2.1, x7.2.2, true), ())
  | .inr x7 =>
   some ((x7.1.1, x7.1.2, x7.2), ()) := by kernel_rfl
def c_sGraphOf : TC :=
 (.seq (.rg [o1 1 (.a (.t 0)),
   ⟨false, [], [], .det 2 (.a (.c [.i .i64, .sl [.i .i64, .i .i64]] [.int .i64 (0), .slice none 0 0])), [2, 1000000001], (some 2), none⟩])
 (.seq (.rg [o1 5 (.idx .nil),
   o1 6 (.load 1 [] 0 (.t 5) 1 false),
   o1 7 (.build [.i .i64, .sl [.i .i64, .i .i64]] [(0, .t 6)]),
   ⟨false, [], [], .det 2 (.a (.c [.i .i64, .sl [.i .i64, .i .i64]] [.int .i64 (0), .slice none 0 0])), [3, 1000000001], (some 3), none⟩,
   o4 2 [3, 7] (.store 3 [] 0 .nil (.t 7))])
 (.seq (.join [⟨3, [.i .i64, .sl [.i .i64, .i .i64]], false⟩] 8589934360 none (.seq (.rg [o1 4 (.lit [.i .i64] [.int .i64 (0)])])
 (.block 0 (.loop [⟨3, [.i .i64, .sl [.i .i64, .i .i64]], false⟩, ⟨4, [.i .i64], false⟩] 8589934360
  (.seq (.seq (.rg [o1 8 (.copy 4),
    o1 9 (.idx .nil),
    o1 10 (.load 1 [] 1 (.t 9) 1 false),
    o1 11 (.len 10),
    o1 12 (.data (.bin .lss) [.t 8, .t 11])])
  (.cond (.t 12)
   .skip
   (.exit 0)))
  (.seq (.block 1 (.rg [o1 15 (.idx .nil),
    o1 16 (.load 3 [] 1 (.t 15) 1 true),
    o1 17 (.idx .nil),
    o1 18 (.load 1 [] 1 (.t 17) 1 false),
    o1 19 (.copy 4),
    o1 20 (.index 18 (.t 19)),
    o1 21 (.idx (.t 20)),
    o1 22 (.load 18 [(0, 4)] 0 (.t 21) 1 false),
    o1 23 (.idx .nil),
    o1 24 (.load 1 [] 1 (.t 23) 1 false),
    o1 25 (.copy 4),
    o1 26 (.index 24 (.t 25)),
    o1 27 (.idx (.t 26)),
    o1 28 (.load 24 [(0, 4)] 1 (.t 27) 1 false),
    o1 29 (.build [.i .i64, .i .i64] [(0, .t 22), (1, .t 28)]),
    o1 30 (.sli [.i .i64, .i .i64] [.t 29]),
    ⟨false, [16], [], .det 2 (.app (some 16) 30), [31, 16, 16, 3], (some 31), none⟩,
    o1 32 (.idx .nil),
    o4 2 [3, 31, 16] (.store 3 [] 1 (.t 32) (.t 31))]))
  (.rg [o1 13 (.copy 4),
    o1 14 (.data (.bin .add) [.t 13, .c (.int .i64 (1))]),
    o1 4 (.copy 14)])))))))
 (.seq (.rg [o1 33 (.load 3 [] 0 .nil 2 true),
   ⟨false, [33], [], .det 2 (.store 2 [] 0 .nil (.t 33)), [2, 33, 33, 3], none, none⟩])
 .ret))))
def s_sGraphOf : Sig := ⟨[.rd true [.d, .sl (.own none) [.d, .d, .d, .d]]], (.one true [.d, .sl (.own none) [.d, .d]])⟩
noncomputable def E_sGraphOf : TEnv := envOf []
noncomputable def f_sGraphOf (n : Nat) : (Int × List (Int × Int × Int × Bool)) → Option ((Int × List (Int × Int)) × Unit) := runFn n E_sGraphOf c_sGraphOf [[.i .i64, .sl [.i .i64, .i .i64, .i .i64, .b]]] [.i .i64, .sl [.i .i64, .i .i64]] [] [2] .no
noncomputable def g_sGraphOf := f_sGraphOf BIG
noncomputable def p_sGraphOf : TSp := ⟨s_sGraphOf, [[.i .i64, .sl [.i .i64, .i .i64, .i .i64, .b]]], [.i .i64, .sl [.i .i64, .i .i64]], [], Ou.j .no, g_sGraphOf⟩
theorem k_sGraphOf : chkW PG E_sGraphOf 123 s_sGraphOf (c_sGraphOf.ht 34) .no = some (c_sGraphOf.wc E_sGraphOf, [2]) := by kernel_rfl
theorem ok_sGraphOf : p_sGraphOf.Ok PG 123 := mkOk (env_nil PG) k_sGraphOf (by kernel_rfl)
theorem e_sGraphOf (n : Nat) (a0 : Int × List (Int × Int × Int × Bool)) : f_sGraphOf n a0 =
  Option.bind (loopT n (X := (Int × List (Int × Int)) × Int) (B := (Int × List (Int × Int))) (fun self1 x0 =>
    bif decide (x0.2 < (a0.2.length : Int)) then
     bnd a0.2.length x0.2 fun n2 =>
     Option.bind a0.2[n2]? fun y3 =>
     bnd a0.2.length x0.2 fun n4 =>
     Option.bind a0.2[n4]? fun y5 =>
     bif decide (x0.1.2.length + ([(y3.1, y5.2.1)]).length ≤ 4294967296) then
      self1 ((x0.1.1, x0.1.2 ++ ([(y3.1, y5.2.1)])), IntKind.wrap .i64 (x0.2 + (1 : Int)))
     else none
    else some x0.1) ((a0.1, []), (0 : Int)) : Option ((Int × List (Int × Int)))) fun x6 =>
  some (x6, ()) := by kernel_rfl
def c_sOwned : TC :=
 (.seq (.rg [o1 1 (.a (.t 0)),
   o1 2 (.lit [.sl [.i .i64, .i .i64]] [.slice none 0 0])])
 (.seq (.rg [o1 3 (.sli [.i .i64, .i .i64] []),
   o1 4 (.idx .nil),
   o1 5 (.load 1 [] 1 (.t 4) 2 false),
   o3 6 123 [.t 5],
   ⟨false, [], [], .det 2 (.ext 6 1 1), [7, 6], (some 7), none⟩,
   ⟨false, [], [], .det 2 (.app (some 3) 7), [8, 3], (some 8), none⟩,
   ⟨false, [], [], .det 2 (.copy 8), [2, 8], (some 2), none⟩])
 .ret))
def s_sOwned : Sig := ⟨[.rd true [.d, .d, .sl (.own none) [.d, .d, .d, .d], .d, .d, .sl (.own none) [.d, .d], .sl (.own none) [.d]]], (.one false [.sl (.own none) [.d, .d]])⟩
noncomputable def E_sOwned : TEnv := envOf [(123, p_sGraphOf)]
noncomputable def f_sOwned (n : Nat) : (Int × Int × List (Int × Int × Int × Bool) × Int × Bool × List (Int × Int) × List (Int)) → Option ((List (Int × Int)) × Unit) := runFn n E_sOwned c_sOwned [[.i .i64, .i .i64, .sl [.i .i64, .i .i64, .i .i64, .b], .i .i64, .b, .sl [.i .i64, .i .i64], .sl [.i .i64]]] [.sl [.i .i64, .i .i64]] [] [2] .no
noncomputable def g_sOwned := f_sOwned BIG
noncomputable def p_sOwned : TSp := ⟨s_sOwned, [[.i .i64, .i .i64, .sl [.i .i64, .i .i64, .i .i64, .b], .i .i64, .b, .sl [.i .i64, .i .i64], .sl [.i .i64]]], [.sl [.i .i64, .i .i64]], [], Ou.j .no, g_sOwned⟩
theorem k_sOwned : chkW PG E_sOwned 56 s_sOwned (c_sOwned.ht 9) .no = some (c_sOwned.wc E_sOwned, [2]) := by kernel_rfl
theorem ok_sOwned : p_sOwned.Ok PG 56 := mkOk (env_cons ok_sGraphOf (env_nil PG)) k_sOwned (by kernel_rfl)
theorem e_sOwned (n : Nat) (a0 : Int × Int × List (Int × Int × Int × Bool) × Int × Bool × List (Int × Int) × List (Int)) : f_sOwned n a0 =
  Option.bind (g_sGraphOf (a0.2.1, a0.2.2.1)) fun r0 =>
  bif decide (0 + r0.1.2.length ≤ 4294967296) then
   some ([] ++ r0.1.2, ())
  else none := by kernel_rfl
end Go.Fw
