/- The given functions, as what they compute; each is shown to be what the code does. No conditions. -/
import Derived.Test.YtojipknoidbbgaaG5
import Derived.Test.YtojipknoidbbgaaProg
set_option linter.unusedVariables false
set_option linter.unusedSimpArgs false
namespace Go.Fw
noncomputable abbrev PG := Go.Proofs.Try.prog
def o2 (d : Nat) (e : ED) (j : Nat) (b : Bool) : TO := ⟨false, [], [], .det 1 e, [d], some d, some (j, b)⟩
def o3 (d : Nat) (K : FuncId) (gets : List OY) : TO := ⟨false, [], [], .call 1 K gets .no, [d], some d, none⟩
def o4 (n : Nat) (ds : List Nat) (e : ED) : TO := ⟨false, [], [], .det n e, ds, none, none⟩
end Go.Fw
namespace Go.Fw
/- laws.szIntS -/
def c_lszIntS : TC :=
 (.seq (.rg [o1 4 (.lit [.i .i64] [.int .i64 (0)])])
 (.seq (.rg [o1 5 (.copy 1),
   o1 6 (.copy 0),
   o1 7 (.len 6),
   o1 8 (.data (.bin .sub) [.t 5, .t 7]),
   o1 1 (.copy 8)])
 (.seq (.seq (.rg [o1 9 (.copy 1),
   o1 10 (.data (.bin .lss) [.t 9, .c (.int .i64 (0))])])
 (.cond (.t 10)
  (.seq (.rg [o1 4 (.lit [.i .i64] [.int .i64 (-1)])])
  .ret)
  .skip))
 (.seq (.rg [o1 11 (.copy 1),
   o1 4 (.copy 11)])
 .ret))))
def s_lszIntS : Sig := ⟨[.rd false [.sl (.own none) [.d]], .rd false [.d]], (.one false [.d])⟩
noncomputable def E_lszIntS : TEnv := envOf []
noncomputable def f_lszIntS (n : Nat) : List (Int) × Int → Option ((Int) × Unit) := runFn n E_lszIntS c_lszIntS [[.sl [.i .i64]], [.i .i64]] [.i .i64] [] [4] .no
noncomputable def g_lszIntS := f_lszIntS BIG
noncomputable def p_lszIntS : TSp := ⟨s_lszIntS, [[.sl [.i .i64]], [.i .i64]], [.i .i64], [], Ou.j .no, g_lszIntS⟩
theorem k_lszIntS : chkW PG E_lszIntS 162 s_lszIntS (c_lszIntS.ht 12) .no = some (c_lszIntS.wc E_lszIntS, [4]) := by kernel_rfl
theorem ok_lszIntS : p_lszIntS.Ok PG 162 := mkOk (env_nil PG) k_lszIntS (by kernel_rfl)
theorem e_lszIntS (n : Nat) (a0 : List (Int)) (a1 : Int) : f_lszIntS n (a0, a1) =
  bif decide ((IntKind.wrap .i64 (a1 - (a0.length : Int))) < (0 : Int)) then
   some ((-1 : Int), ())
  else some (IntKind.wrap .i64 (a1 - (a0.length : Int)), ()) := by kernel_rfl
/- laws.szEdgeS -/
def c_lszEdgeS : TC :=
 (.seq (.rg [o1 4 (.lit [.i .i64] [.int .i64 (0)])])
 (.seq (.rg [o1 5 (.copy 1),
   o1 6 (.copy 0),
   o1 7 (.len 6),
   o1 8 (.data (.bin .sub) [.t 5, .t 7]),
   o1 1 (.copy 8)])
 (.seq (.seq (.rg [o1 9 (.copy 1),
   o1 10 (.data (.bin .lss) [.t 9, .c (.int .i64 (0))])])
 (.cond (.t 10)
  (.seq (.rg [o1 4 (.lit [.i .i64] [.int .i64 (-1)])])
  .ret)
  .skip))
 (.seq (.rg [o1 11 (.copy 1),
   o1 4 (.copy 11)])
 .ret))))
def s_lszEdgeS : Sig := ⟨[.rd false [.sl (.own none) [.d, .d]], .rd false [.d]], (.one false [.d])⟩
noncomputable def E_lszEdgeS : TEnv := envOf []
noncomputable def f_lszEdgeS (n : Nat) : (List (Int × Int)) × Int → Option ((Int) × Unit) := runFn n E_lszEdgeS c_lszEdgeS [[.sl [.i .i64, .i .i64]], [.i .i64]] [.i .i64] [] [4] .no
noncomputable def g_lszEdgeS := f_lszEdgeS BIG
noncomputable def p_lszEdgeS : TSp := ⟨s_lszEdgeS, [[.sl [.i .i64, .i .i64]], [.i .i64]], [.i .i64], [], Ou.j .no, g_lszEdgeS⟩
theorem k_lszEdgeS : chkW PG E_lszEdgeS 163 s_lszEdgeS (c_lszEdgeS.ht 12) .no = some (c_lszEdgeS.wc E_lszEdgeS, [4]) := by kernel_rfl
theorem ok_lszEdgeS : p_lszEdgeS.Ok PG 163 := mkOk (env_nil PG) k_lszEdgeS (by kernel_rfl)
theorem e_lszEdgeS (n : Nat) (a0 : List (Int × Int)) (a1 : Int) : f_lszEdgeS n (a0, a1) =
  bif decide ((IntKind.wrap .i64 (a1 - (a0.length : Int))) < (0 : Int)) then
   some ((-1 : Int), ())
  else some (IntKind.wrap .i64 (a1 - (a0.length : Int)), ()) := by kernel_rfl
/- laws.szIntSS -/
def c_lszIntSS : TC :=
 (.seq (.rg [o1 4 (.lit [.i .i64] [.int .i64 (0)])])
 (.seq (.rg [o1 6 (.copy 1),
   o1 7 (.copy 0),
   o1 8 (.len 7),
   o1 9 (.data (.bin .sub) [.t 6, .t 8]),
   o1 1 (.copy 9)])
 (.seq (.seq (.rg [o1 10 (.copy 1),
   o1 11 (.data (.bin .lss) [.t 10, .c (.int .i64 (0))])])
 (.cond (.t 11)
  (.seq (.rg [o1 4 (.lit [.i .i64] [.int .i64 (-1)])])
  .ret)
  .skip))
 (.seq (.join [⟨1, [.i .i64], false⟩] 67104818 (some [⟨4, [.i .i64], false⟩]) (.seq (.rg [o1 5 (.lit [.i .i64] [.int .i64 (0)])])
 (.block 0 (.loop [⟨1, [.i .i64], false⟩, ⟨5, [.i .i64], false⟩] 67104818
  (.seq (.seq (.rg [o1 12 (.copy 5),
    o1 13 (.copy 0),
    o1 14 (.len 13),
    o1 15 (.data (.bin .lss) [.t 12, .t 14])])
  (.cond (.t 15)
   .skip
   (.exit 0)))
  (.seq (.block 1 (.seq (.rg [o1 18 (.copy 0),
    o1 19 (.copy 5),
    o1 20 (.index 18 (.t 19)),
    o1 21 (.load 18 [(0, 1)] 0 (.t 20) 1 false),
    o1 22 (.copy 1),
    o3 23 162 [.t 21, .t 22],
    o1 1 (.copy 23)])
  (.seq (.rg [o1 24 (.copy 1),
    o1 25 (.data (.bin .lss) [.t 24, .c (.int .i64 (0))])])
  (.cond (.t 25)
   (.seq (.rg [o1 4 (.lit [.i .i64] [.int .i64 (-1)])])
   .ret)
   .skip))))
  (.rg [o1 16 (.copy 5),
    o1 17 (.data (.bin .add) [.t 16, .c (.int .i64 (1))]),
    o1 5 (.copy 17)])))))))
 (.seq (.rg [o1 26 (.copy 1),
   o1 4 (.copy 26)])
 .ret)))))
def s_lszIntSS : Sig := ⟨[.rd false [.sl (.own none) [.sl (.own none) [.d]]], .rd false [.d]], (.one false [.d])⟩
noncomputable def E_lszIntSS : TEnv := envOf [(162, p_lszIntS)]
noncomputable def f_lszIntSS (n : Nat) : List (List (Int)) × Int → Option ((Int) × Unit) := runFn n E_lszIntSS c_lszIntSS [[.sl [.sl [.i .i64]]], [.i .i64]] [.i .i64] [] [4] .no
noncomputable def g_lszIntSS := f_lszIntSS BIG
noncomputable def p_lszIntSS : TSp := ⟨s_lszIntSS, [[.sl [.sl [.i .i64]]], [.i .i64]], [.i .i64], [], Ou.j .no, g_lszIntSS⟩
theorem k_lszIntSS : chkW PG E_lszIntSS 164 s_lszIntSS (c_lszIntSS.ht 27) .no = some (c_lszIntSS.wc E_lszIntSS, [4]) := by kernel_rfl
theorem ok_lszIntSS : p_lszIntSS.Ok PG 164 := mkOk (env_cons ok_lszIntS (env_nil PG)) k_lszIntSS (by kernel_rfl)
theorem e_lszIntSS (n : Nat) (a0 : List ((List (Int)))) (a1 : Int) : f_lszIntSS n (a0, a1) =
  bif decide ((IntKind.wrap .i64 (a1 - (a0.length : Int))) < (0 : Int)) then
   some ((-1 : Int), ())
  else Option.bind (loopT n (X := Int × Int) (B := (Int) ⊕ (Int)) (fun self1 x0 =>
    bif decide (x0.2 < (a0.length : Int)) then
     bnd a0.length x0.2 fun n2 =>
     Option.bind a0[n2]? fun y3 =>
     Option.bind (g_lszIntS (y3, x0.1)) fun r4 =>
     bif decide (r4.1 < (0 : Int)) then
      some (Sum.inr (-1 : Int))
     else self1 (r4.1, IntKind.wrap .i64 (x0.2 + (1 : Int)))
    else some (Sum.inl x0.1)) (IntKind.wrap .i64 (a1 - (a0.length : Int)), (0 : Int)) : Option ((Int) ⊕ (Int))) fun y => match y with
  | .inl x5 =>
   some (x5, ())
  | .inr x5 =>
   some (x5, ()) := by kernel_rfl
/- laws.szOrder -/
def c_lszOrder : TC :=
 (.seq (.rg [o1 2 (.a (.t 0)),
   o1 4 (.lit [.i .i64] [.int .i64 (0)])])
 (.seq (.rg [o1 5 (.idx .nil),
   o1 6 (.load 2 [] 2 (.t 5) 1 false),
   o1 7 (.copy 1),
   o3 8 163 [.t 6, .t 7],
   o1 1 (.copy 8)])
 (.seq (.seq (.rg [o1 9 (.copy 1),
   o1 10 (.data (.bin .lss) [.t 9, .c (.int .i64 (0))])])
 (.cond (.t 10)
  (.seq (.rg [o1 4 (.lit [.i .i64] [.int .i64 (-1)])])
  .ret)
  .skip))
 (.seq (.rg [o1 11 (.copy 1),
   o1 4 (.copy 11)])
 .ret))))
def s_lszOrder : Sig := ⟨[.rd true [.d, .d, .sl (.own none) [.d, .d], .d], .rd false [.d]], (.one false [.d])⟩
noncomputable def E_lszOrder : TEnv := envOf [(163, p_lszEdgeS)]
noncomputable def f_lszOrder (n : Nat) : (Int × Int × List (Int × Int) × Int) × Int → Option ((Int) × Unit) := runFn n E_lszOrder c_lszOrder [[.i .i64, .i .i64, .sl [.i .i64, .i .i64], .i .i64], [.i .i64]] [.i .i64] [] [4] .no
noncomputable def g_lszOrder := f_lszOrder BIG
noncomputable def p_lszOrder : TSp := ⟨s_lszOrder, [[.i .i64, .i .i64, .sl [.i .i64, .i .i64], .i .i64], [.i .i64]], [.i .i64], [], Ou.j .no, g_lszOrder⟩
theorem k_lszOrder : chkW PG E_lszOrder 280 s_lszOrder (c_lszOrder.ht 12) .no = some (c_lszOrder.wc E_lszOrder, [4]) := by kernel_rfl
theorem ok_lszOrder : p_lszOrder.Ok PG 280 := mkOk (env_cons ok_lszEdgeS (env_nil PG)) k_lszOrder (by kernel_rfl)
theorem e_lszOrder (n : Nat) (a0 : Int × Int × List (Int × Int) × Int) (a1 : Int) : f_lszOrder n (a0, a1) =
  Option.bind (g_lszEdgeS (a0.2.2.1, a1)) fun r0 =>
  bif decide (r0.1 < (0 : Int)) then
   some ((-1 : Int), ())
  else some (r0.1, ()) := by kernel_rfl
/- laws.szTask -/
def c_lszTask : TC :=
 (.seq (.rg [o1 2 (.a (.t 0)),
   o1 4 (.lit [.i .i64] [.int .i64 (0)])])
 (.seq (.rg [o1 5 (.idx .nil),
   o1 6 (.load 2 [] 5 (.t 5) 4 false),
   o1 7 (.copy 1),
   o3 8 280 [.t 6, .t 7],
   o1 1 (.copy 8)])
 (.seq (.seq (.rg [o1 9 (.copy 1),
   o1 10 (.data (.bin .lss) [.t 9, .c (.int .i64 (0))])])
 (.cond (.t 10)
  (.seq (.rg [o1 4 (.lit [.i .i64] [.int .i64 (-1)])])
  .ret)
  .skip))
 (.seq (.rg [o1 11 (.copy 1),
   o1 4 (.copy 11)])
 .ret))))
def s_lszTask : Sig := ⟨[.rd true [.d, .d, .d, .d, .d, .d, .d, .sl (.own none) [.d, .d], .d], .rd false [.d]], (.one false [.d])⟩
noncomputable def E_lszTask : TEnv := envOf [(280, p_lszOrder)]
noncomputable def f_lszTask (n : Nat) : (Int × Int × Int × Int × Int × Int × Int × List (Int × Int) × Int) × Int → Option ((Int) × Unit) := runFn n E_lszTask c_lszTask [[.i .i64, .i .i64, .i .i64, .i .i64, .i .i64, .i .i64, .i .i64, .sl [.i .i64, .i .i64], .i .i64], [.i .i64]] [.i .i64] [] [4] .no
noncomputable def g_lszTask := f_lszTask BIG
noncomputable def p_lszTask : TSp := ⟨s_lszTask, [[.i .i64, .i .i64, .i .i64, .i .i64, .i .i64, .i .i64, .i .i64, .sl [.i .i64, .i .i64], .i .i64], [.i .i64]], [.i .i64], [], Ou.j .no, g_lszTask⟩
theorem k_lszTask : chkW PG E_lszTask 165 s_lszTask (c_lszTask.ht 12) .no = some (c_lszTask.wc E_lszTask, [4]) := by kernel_rfl
theorem ok_lszTask : p_lszTask.Ok PG 165 := mkOk (env_cons ok_lszOrder (env_nil PG)) k_lszTask (by kernel_rfl)
theorem e_lszTask (n : Nat) (a0 : Int × Int × Int × Int × Int × Int × Int × List (Int × Int) × Int) (a1 : Int) : f_lszTask n (a0, a1) =
  Option.bind (g_lszOrder (a0.2.2.2.2.2, a1)) fun r0 =>
  bif decide (r0.1 < (0 : Int)) then
   some ((-1 : Int), ())
  else some (r0.1, ()) := by kernel_rfl
/- laws.szSaidS -/
def c_lszSaidS : TC :=
 (.seq (.rg [o1 4 (.lit [.i .i64] [.int .i64 (0)])])
 (.seq (.rg [o1 5 (.copy 1),
   o1 6 (.copy 0),
   o1 7 (.len 6),
   o1 8 (.data (.bin .sub) [.t 5, .t 7]),
   o1 1 (.copy 8)])
 (.seq (.seq (.rg [o1 9 (.copy 1),
   o1 10 (.data (.bin .lss) [.t 9, .c (.int .i64 (0))])])
 (.cond (.t 10)
  (.seq (.rg [o1 4 (.lit [.i .i64] [.int .i64 (-1)])])
  .ret)
  .skip))
 (.seq (.rg [o1 11 (.copy 1),
   o1 4 (.copy 11)])
 .ret))))
def s_lszSaidS : Sig := ⟨[.rd false [.sl (.own none) [.d, .d, .d, .d, .d, .d]], .rd false [.d]], (.one false [.d])⟩
noncomputable def E_lszSaidS : TEnv := envOf []
noncomputable def f_lszSaidS (n : Nat) : (List (Int × Int × Int × Int × Int × Int)) × Int → Option ((Int) × Unit) := runFn n E_lszSaidS c_lszSaidS [[.sl [.i .i64, .i .i64, .i .i64, .i .i64, .i .i64, .i .i64]], [.i .i64]] [.i .i64] [] [4] .no
noncomputable def g_lszSaidS := f_lszSaidS BIG
noncomputable def p_lszSaidS : TSp := ⟨s_lszSaidS, [[.sl [.i .i64, .i .i64, .i .i64, .i .i64, .i .i64, .i .i64]], [.i .i64]], [.i .i64], [], Ou.j .no, g_lszSaidS⟩
theorem k_lszSaidS : chkW PG E_lszSaidS 166 s_lszSaidS (c_lszSaidS.ht 12) .no = some (c_lszSaidS.wc E_lszSaidS, [4]) := by kernel_rfl
theorem ok_lszSaidS : p_lszSaidS.Ok PG 166 := mkOk (env_nil PG) k_lszSaidS (by kernel_rfl)
theorem e_lszSaidS (n : Nat) (a0 : List (Int × Int × Int × Int × Int × Int)) (a1 : Int) : f_lszSaidS n (a0, a1) =
  bif decide ((IntKind.wrap .i64 (a1 - (a0.length : Int))) < (0 : Int)) then
   some ((-1 : Int), ())
  else some (IntKind.wrap .i64 (a1 - (a0.length : Int)), ()) := by kernel_rfl
/- laws.szHead -/
def c_lszHead : TC :=
 (.seq (.rg [o1 2 (.a (.t 0)),
   o1 4 (.lit [.i .i64] [.int .i64 (0)])])
 (.seq (.rg [o1 5 (.idx .nil),
   o1 6 (.load 2 [] 1 (.t 5) 1 false),
   o1 7 (.copy 1),
   o3 8 162 [.t 6, .t 7],
   o1 1 (.copy 8)])
 (.seq (.seq (.rg [o1 9 (.copy 1),
   o1 10 (.data (.bin .lss) [.t 9, .c (.int .i64 (0))])])
 (.cond (.t 10)
  (.seq (.rg [o1 4 (.lit [.i .i64] [.int .i64 (-1)])])
  .ret)
  .skip))
 (.seq (.rg [o1 11 (.idx .nil),
   o1 12 (.load 2 [] 2 (.t 11) 1 false),
   o1 13 (.copy 1),
   o3 14 163 [.t 12, .t 13],
   o1 1 (.copy 14)])
 (.seq (.seq (.rg [o1 15 (.copy 1),
   o1 16 (.data (.bin .lss) [.t 15, .c (.int .i64 (0))])])
 (.cond (.t 16)
  (.seq (.rg [o1 4 (.lit [.i .i64] [.int .i64 (-1)])])
  .ret)
  .skip))
 (.seq (.rg [o1 17 (.idx .nil),
   o1 18 (.load 2 [] 3 (.t 17) 1 false),
   o1 19 (.copy 1),
   o3 20 164 [.t 18, .t 19],
   o1 1 (.copy 20)])
 (.seq (.seq (.rg [o1 21 (.copy 1),
   o1 22 (.data (.bin .lss) [.t 21, .c (.int .i64 (0))])])
 (.cond (.t 22)
  (.seq (.rg [o1 4 (.lit [.i .i64] [.int .i64 (-1)])])
  .ret)
  .skip))
 (.seq (.rg [o1 23 (.idx .nil),
   o1 24 (.load 2 [] 4 (.t 23) 1 false),
   o1 25 (.copy 1),
   o3 26 162 [.t 24, .t 25],
   o1 1 (.copy 26)])
 (.seq (.seq (.rg [o1 27 (.copy 1),
   o1 28 (.data (.bin .lss) [.t 27, .c (.int .i64 (0))])])
 (.cond (.t 28)
  (.seq (.rg [o1 4 (.lit [.i .i64] [.int .i64 (-1)])])
  .ret)
  .skip))
 (.seq (.rg [o1 29 (.idx .nil),
   o1 30 (.load 2 [] 5 (.t 29) 9 false),
   o1 31 (.copy 1),
   o3 32 165 [.t 30, .t 31],
   o1 1 (.copy 32)])
 (.seq (.seq (.rg [o1 33 (.copy 1),
   o1 34 (.data (.bin .lss) [.t 33, .c (.int .i64 (0))])])
 (.cond (.t 34)
  (.seq (.rg [o1 4 (.lit [.i .i64] [.int .i64 (-1)])])
  .ret)
  .skip))
 (.seq (.rg [o1 35 (.idx .nil),
   o1 36 (.load 2 [] 14 (.t 35) 1 false),
   o1 37 (.copy 1),
   o3 38 166 [.t 36, .t 37],
   o1 1 (.copy 38)])
 (.seq (.seq (.rg [o1 39 (.copy 1),
   o1 40 (.data (.bin .lss) [.t 39, .c (.int .i64 (0))])])
 (.cond (.t 40)
  (.seq (.rg [o1 4 (.lit [.i .i64] [.int .i64 (-1)])])
  .ret)
  .skip))
 (.seq (.rg [o1 41 (.copy 1),
   o1 4 (.copy 41)])
 .ret))))))))))))))
def s_lszHead : Sig := ⟨[.rd true [.d, .sl (.own none) [.d], .sl (.own none) [.d, .d], .sl (.own none) [.sl (.own none) [.d]], .sl (.own none) [.d], .d, .d, .d, .d, .d, .d, .d, .sl (.own none) [.d, .d], .d, .sl (.own none) [.d, .d, .d, .d, .d, .d]], .rd false [.d]], (.one false [.d])⟩
noncomputable def E_lszHead : TEnv := envOf [(162, p_lszIntS), (163, p_lszEdgeS), (164, p_lszIntSS), (165, p_lszTask), (166, p_lszSaidS)]
noncomputable def f_lszHead (n : Nat) : (Int × List (Int) × List (Int × Int) × List (List (Int)) × List (Int) × Int × Int × Int × Int × Int × Int × Int × List (Int × Int) × Int × List (Int × Int × Int × Int × Int × Int)) × Int → Option ((Int) × Unit) := runFn n E_lszHead c_lszHead [[.i .i64, .sl [.i .i64], .sl [.i .i64, .i .i64], .sl [.sl [.i .i64]], .sl [.i .i64], .i .i64, .i .i64, .i .i64, .i .i64, .i .i64, .i .i64, .i .i64, .sl [.i .i64, .i .i64], .i .i64, .sl [.i .i64, .i .i64, .i .i64, .i .i64, .i .i64, .i .i64]], [.i .i64]] [.i .i64] [] [4] .no
noncomputable def g_lszHead := f_lszHead BIG
noncomputable def p_lszHead : TSp := ⟨s_lszHead, [[.i .i64, .sl [.i .i64], .sl [.i .i64, .i .i64], .sl [.sl [.i .i64]], .sl [.i .i64], .i .i64, .i .i64, .i .i64, .i .i64, .i .i64, .i .i64, .i .i64, .sl [.i .i64, .i .i64], .i .i64, .sl [.i .i64, .i .i64, .i .i64, .i .i64, .i .i64, .i .i64]], [.i .i64]], [.i .i64], [], Ou.j .no, g_lszHead⟩
theorem k_lszHead : chkW PG E_lszHead 68 s_lszHead (c_lszHead.ht 42) .no = some (c_lszHead.wc E_lszHead, [4]) := by kernel_rfl
theorem ok_lszHead : p_lszHead.Ok PG 68 := mkOk (env_cons ok_lszIntS (env_cons ok_lszEdgeS (env_cons ok_lszIntSS (env_cons ok_lszTask (env_cons ok_lszSaidS (env_nil PG)))))) k_lszHead (by kernel_rfl)
theorem e_lszHead (n : Nat) (a0 : Int × List (Int) × List (Int × Int) × List ((List (Int))) × List (Int) × Int × Int × Int × Int × Int × Int × Int × List (Int × Int) × Int × List (Int × Int × Int × Int × Int × Int)) (a1 : Int) : f_lszHead n (a0, a1) =
  Option.bind (g_lszIntS (a0.2.1, a1)) fun r0 =>
  bif decide (r0.1 < (0 : Int)) then
   some ((-1 : Int), ())
  else Option.bind (g_lszEdgeS (a0.2.2.1, r0.1)) fun r1 =>
  bif decide (r1.1 < (0 : Int)) then
   some ((-1 : Int), ())
  else Option.bind (g_lszIntSS (a0.2.2.2.1, r1.1)) fun r2 =>
  bif decide (r2.1 < (0 : Int)) then
   some ((-1 : Int), ())
  else Option.bind (g_lszIntS (a0.2.2.2.2.1, r2.1)) fun r3 =>
  bif decide (r3.1 < (0 : Int)) then
   some ((-1 : Int), ())
  else Option.bind (g_lszTask ((a0.2.2.2.2.2.1, a0.2.2.2.2.2.2.1, a0.2.2.2.2.2.2.2.1, a0.2.2.2.2.2.2.2.2.1, a0.2.2.2.2.2.2.2.2.2.1, a0.2.2.2.2.2.2.2.2.2.2.1, a0.2.2.2.2.2.2.2.2.2.2.2.1, a0.2.2.2.2.2.2.2.2.2.2.2.2.1, a0.2.2.2.2.2.2.2.2.2.2.2.2.2.1), r3.1)) fun r4 =>
  bif decide (r4.1 < (0 : Int)) then
   some ((-1 : Int), ())
  else Option.bind (g_lszSaidS (a0.2.2.2.2.2.2.2.2.2.2.2.2.2.2, r4.1)) fun r5 =>
  bif decide (r5.1 < (0 : Int)) then
   some ((-1 : Int), ())
  else some (r5.1, ()) := by kernel_rfl
/- laws.szAnswer -/
def c_lszAnswer : TC :=
 (.seq (.rg [o1 2 (.a (.t 0)),
   o1 4 (.lit [.i .i64] [.int .i64 (0)])])
 (.seq (.rg [o1 5 (.idx .nil),
   o1 6 (.load 2 [] 2 (.t 5) 1 false),
   o1 7 (.copy 1),
   o3 8 163 [.t 6, .t 7],
   o1 1 (.copy 8)])
 (.seq (.seq (.rg [o1 9 (.copy 1),
   o1 10 (.data (.bin .lss) [.t 9, .c (.int .i64 (0))])])
 (.cond (.t 10)
  (.seq (.rg [o1 4 (.lit [.i .i64] [.int .i64 (-1)])])
  .ret)
  .skip))
 (.seq (.rg [o1 11 (.idx .nil),
   o1 12 (.load 2 [] 3 (.t 11) 1 false),
   o1 13 (.copy 1),
   o3 14 162 [.t 12, .t 13],
   o1 1 (.copy 14)])
 (.seq (.seq (.rg [o1 15 (.copy 1),
   o1 16 (.data (.bin .lss) [.t 15, .c (.int .i64 (0))])])
 (.cond (.t 16)
  (.seq (.rg [o1 4 (.lit [.i .i64] [.int .i64 (-1)])])
  .ret)
  .skip))
 (.seq (.rg [o1 17 (.copy 1),
   o1 4 (.copy 17)])
 .ret))))))
def s_lszAnswer : Sig := ⟨[.rd true [.d, .d, .sl (.own none) [.d, .d], .sl (.own none) [.d]], .rd false [.d]], (.one false [.d])⟩
noncomputable def E_lszAnswer : TEnv := envOf [(163, p_lszEdgeS), (162, p_lszIntS)]
noncomputable def f_lszAnswer (n : Nat) : (Int × Bool × List (Int × Int) × List (Int)) × Int → Option ((Int) × Unit) := runFn n E_lszAnswer c_lszAnswer [[.i .i64, .b, .sl [.i .i64, .i .i64], .sl [.i .i64]], [.i .i64]] [.i .i64] [] [4] .no
noncomputable def g_lszAnswer := f_lszAnswer BIG
noncomputable def p_lszAnswer : TSp := ⟨s_lszAnswer, [[.i .i64, .b, .sl [.i .i64, .i .i64], .sl [.i .i64]], [.i .i64]], [.i .i64], [], Ou.j .no, g_lszAnswer⟩
theorem k_lszAnswer : chkW PG E_lszAnswer 69 s_lszAnswer (c_lszAnswer.ht 18) .no = some (c_lszAnswer.wc E_lszAnswer, [4]) := by kernel_rfl
theorem ok_lszAnswer : p_lszAnswer.Ok PG 69 := mkOk (env_cons ok_lszEdgeS (env_cons ok_lszIntS (env_nil PG))) k_lszAnswer (by kernel_rfl)
theorem e_lszAnswer (n : Nat) (a0 : Int × Bool × List (Int × Int) × List (Int)) (a1 : Int) : f_lszAnswer n (a0, a1) =
  Option.bind (g_lszEdgeS (a0.2.2.1, a1)) fun r0 =>
  bif decide (r0.1 < (0 : Int)) then
   some ((-1 : Int), ())
  else Option.bind (g_lszIntS (a0.2.2.2, r0.1)) fun r1 =>
  bif decide (r1.1 < (0 : Int)) then
   some ((-1 : Int), ())
  else some (r1.1, ()) := by kernel_rfl
/- laws.toIntS -/
def c_ltoIntS : TC :=
 (.seq (.rg [o1 2 (.lit [.sl [.i .i64]] [.slice none 0 0])])
 (.seq (.rg [o1 5 (.copy 0),
   o1 6 (.len 5),
   o1 7 (.make (.t 6) [.i .i64]),
   ⟨false, [], [], .det 2 (.copy 7), [3, 7], (some 3), none⟩])
 (.seq (.join [⟨3, [.sl [.i .i64]], false⟩] 2096920 none (.seq (.rg [o1 4 (.lit [.i .i64] [.int .i64 (0)])])
 (.block 0 (.loop [⟨3, [.sl [.i .i64]], false⟩, ⟨4, [.i .i64], false⟩] 2096920
  (.seq (.seq (.rg [o1 8 (.copy 4),
    o1 9 (.copy 0),
    o1 10 (.len 9),
    o1 11 (.data (.bin .lss) [.t 8, .t 10])])
  (.cond (.t 11)
   .skip
   (.exit 0)))
  (.seq (.block 1 (.rg [⟨true, [], [], .det 1 (.copy 3), [14], (some 14), none⟩,
    o1 15 (.copy 4),
    o1 16 (.copy 0),
    o1 17 (.copy 4),
    o1 18 (.index 16 (.t 17)),
    o1 19 (.load 16 [(0, 1)] 0 (.t 18) 1 false),
    o1 20 (.index 14 (.t 15)),
    o4 1 [3, 14] (.store 3 [(0, 1)] 0 (.t 20) (.t 19))]))
  (.rg [o1 12 (.copy 4),
    o1 13 (.data (.bin .add) [.t 12, .c (.int .i64 (1))]),
    o1 4 (.copy 13)])))))))
 (.seq (.rg [⟨false, [], [], .det 2 (.copy 3), [21, 3], (some 21), none⟩,
   ⟨false, [], [], .det 2 (.copy 21), [2, 21], (some 2), none⟩])
 .ret))))
def s_ltoIntS : Sig := ⟨[.rd false [.sl (.own none) [.d]]], (.one false [.sl (.own none) [.d]])⟩
noncomputable def E_ltoIntS : TEnv := envOf []
noncomputable def f_ltoIntS (n : Nat) : List (Int) → Option ((List (Int)) × Unit) := runFn n E_ltoIntS c_ltoIntS [[.sl [.i .i64]]] [.sl [.i .i64]] [] [2] .no
noncomputable def g_ltoIntS := f_ltoIntS BIG
noncomputable def p_ltoIntS : TSp := ⟨s_ltoIntS, [[.sl [.i .i64]]], [.sl [.i .i64]], [], Ou.j .no, g_ltoIntS⟩
theorem k_ltoIntS : chkW PG E_ltoIntS 172 s_ltoIntS (c_ltoIntS.ht 22) .no = some (c_ltoIntS.wc E_ltoIntS, [2]) := by kernel_rfl
theorem ok_ltoIntS : p_ltoIntS.Ok PG 172 := mkOk (env_nil PG) k_ltoIntS (by kernel_rfl)
theorem e_ltoIntS (n : Nat) (a0 : List (Int)) : f_ltoIntS n a0 =
  bif decide (0 ≤ (a0.length : Int)) then
   bif decide ((Int.toNat (a0.length : Int)) ≤ 4294967296) then
    Option.bind (loopT n (X := (List (Int)) × Int) (B := (List (Int))) (fun self1 x0 =>
      bif decide (x0.2 < (a0.length : Int)) then
       bnd a0.length x0.2 fun n2 =>
       Option.bind a0[n2]? fun y3 =>
       bnd x0.1.length x0.2 fun n4 =>
       Option.bind x0.1[n4]? fun y5 =>
       self1 (x0.1.set n4 y3, IntKind.wrap .i64 (x0.2 + (1 : Int)))
      else some x0.1) (List.replicate (Int.toNat (a0.length : Int)) (0 : Int), (0 : Int)) : Option ((List (Int)))) fun x6 =>
    some (x6, ())
   else none
  else none := by kernel_rfl
/- laws.toEdge -/
def c_ltoEdge : TC :=
 (.seq (.rg [o1 1 (.a (.t 0)),
   ⟨false, [], [], .det 2 (.a (.c [.i .i64, .i .i64] [.int .i64 (0), .int .i64 (0)])), [2, 1000000001], (some 2), none⟩])
 (.seq (.rg [⟨false, [], [], .det 2 (.a (.c [.i .i64, .i .i64] [.int .i64 (0), .int .i64 (0)])), [3, 1000000001], (some 3), none⟩])
 (.seq (.rg [o1 4 (.idx .nil),
   o1 5 (.load 1 [] 0 (.t 4) 1 false),
   o1 6 (.idx .nil),
   o4 1 [3] (.store 3 [] 0 (.t 6) (.t 5))])
 (.seq (.rg [o1 7 (.idx .nil),
   o1 8 (.load 1 [] 1 (.t 7) 1 false),
   o1 9 (.idx .nil),
   o4 1 [3] (.store 3 [] 1 (.t 9) (.t 8))])
 (.seq (.rg [o1 10 (.load 3 [] 0 .nil 2 false),
   o4 1 [2] (.store 2 [] 0 .nil (.t 10))])
 .ret)))))
def s_ltoEdge : Sig := ⟨[.rd true [.d, .d]], (.one true [.d, .d])⟩
noncomputable def E_ltoEdge : TEnv := envOf []
noncomputable def f_ltoEdge (n : Nat) : (Int × Int) → Option ((Int × Int) × Unit) := runFn n E_ltoEdge c_ltoEdge [[.i .i64, .i .i64]] [.i .i64, .i .i64] [] [2] .no
noncomputable def g_ltoEdge := f_ltoEdge BIG
noncomputable def p_ltoEdge : TSp := ⟨s_ltoEdge, [[.i .i64, .i .i64]], [.i .i64, .i .i64], [], Ou.j .no, g_ltoEdge⟩
theorem k_ltoEdge : chkW PG E_ltoEdge 284 s_ltoEdge (c_ltoEdge.ht 11) .no = some (c_ltoEdge.wc E_ltoEdge, [2]) := by kernel_rfl
theorem ok_ltoEdge : p_ltoEdge.Ok PG 284 := mkOk (env_nil PG) k_ltoEdge (by kernel_rfl)
theorem e_ltoEdge (n : Nat) (a0 : Int × Int) : f_ltoEdge n a0 =
  some (a0, ()) := by kernel_rfl
/- laws.toEdgeS -/
def c_ltoEdgeS : TC :=
 (.seq (.rg [o1 2 (.lit [.sl [.i .i64, .i .i64]] [.slice none 0 0])])
 (.seq (.rg [o1 5 (.copy 0),
   o1 6 (.len 5),
   o1 7 (.make (.t 6) [.i .i64, .i .i64]),
   ⟨false, [], [], .det 2 (.copy 7), [3, 7], (some 3), none⟩])
 (.seq (.join [⟨3, [.sl [.i .i64, .i .i64]], false⟩] 4194072 none (.seq (.rg [o1 4 (.lit [.i .i64] [.int .i64 (0)])])
 (.block 0 (.loop [⟨3, [.sl [.i .i64, .i .i64]], false⟩, ⟨4, [.i .i64], false⟩] 4194072
  (.seq (.seq (.rg [o1 8 (.copy 4),
    o1 9 (.copy 0),
    o1 10 (.len 9),
    o1 11 (.data (.bin .lss) [.t 8, .t 10])])
  (.cond (.t 11)
   .skip
   (.exit 0)))
  (.seq (.block 1 (.rg [⟨true, [], [], .det 1 (.copy 3), [14], (some 14), none⟩,
    o1 15 (.copy 4),
    o1 16 (.copy 0),
    o1 17 (.copy 4),
    o1 18 (.index 16 (.t 17)),
    o1 19 (.load 16 [(0, 2)] 0 (.t 18) 2 false),
    o3 20 284 [.t 19],
    o1 21 (.index 14 (.t 15)),
    o4 1 [3, 14] (.store 3 [(0, 2)] 0 (.t 21) (.t 20))]))
  (.rg [o1 12 (.copy 4),
    o1 13 (.data (.bin .add) [.t 12, .c (.int .i64 (1))]),
    o1 4 (.copy 13)])))))))
 (.seq (.rg [⟨false, [], [], .det 2 (.copy 3), [22, 3], (some 22), none⟩,
   ⟨false, [], [], .det 2 (.copy 22), [2, 22], (some 2), none⟩])
 .ret))))
def s_ltoEdgeS : Sig := ⟨[.rd false [.sl (.own none) [.d, .d]]], (.one false [.sl (.own none) [.d, .d]])⟩
noncomputable def E_ltoEdgeS : TEnv := envOf [(284, p_ltoEdge)]
noncomputable def f_ltoEdgeS (n : Nat) : (List (Int × Int)) → Option ((List (Int × Int)) × Unit) := runFn n E_ltoEdgeS c_ltoEdgeS [[.sl [.i .i64, .i .i64]]] [.sl [.i .i64, .i .i64]] [] [2] .no
noncomputable def g_ltoEdgeS := f_ltoEdgeS BIG
noncomputable def p_ltoEdgeS : TSp := ⟨s_ltoEdgeS, [[.sl [.i .i64, .i .i64]]], [.sl [.i .i64, .i .i64]], [], Ou.j .no, g_ltoEdgeS⟩
theorem k_ltoEdgeS : chkW PG E_ltoEdgeS 173 s_ltoEdgeS (c_ltoEdgeS.ht 23) .no = some (c_ltoEdgeS.wc E_ltoEdgeS, [2]) := by kernel_rfl
theorem ok_ltoEdgeS : p_ltoEdgeS.Ok PG 173 := mkOk (env_cons ok_ltoEdge (env_nil PG)) k_ltoEdgeS (by kernel_rfl)
theorem e_ltoEdgeS (n : Nat) (a0 : List (Int × Int)) : f_ltoEdgeS n a0 =
  bif decide (0 ≤ (a0.length : Int)) then
   bif decide ((Int.toNat (a0.length : Int)) ≤ 4294967296) then
    Option.bind (loopT n (X := (List (Int × Int)) × Int) (B := (List (Int × Int))) (fun self1 x0 =>
      bif decide (x0.2 < (a0.length : Int)) then
       bnd a0.length x0.2 fun n2 =>
       Option.bind a0[n2]? fun y3 =>
       Option.bind (g_ltoEdge y3) fun r4 =>
       bnd x0.1.length x0.2 fun n5 =>
       Option.bind x0.1[n5]? fun y6 =>
       self1 (x0.1.set n5 r4.1, IntKind.wrap .i64 (x0.2 + (1 : Int)))
      else some x0.1) (List.replicate (Int.toNat (a0.length : Int)) ((0 : Int), (0 : Int)), (0 : Int)) : Option ((List (Int × Int)))) fun x7 =>
    some (x7, ())
   else none
  else none := by kernel_rfl
/- laws.toIntSS -/
def c_ltoIntSS : TC :=
 (.seq (.rg [o1 2 (.lit [.sl [.sl [.i .i64]]] [.slice none 0 0])])
 (.seq (.rg [o1 5 (.copy 0),
   o1 6 (.len 5),
   o1 7 (.make (.t 6) [.sl [.i .i64]]),
   ⟨false, [], [], .det 2 (.copy 7), [3, 7], (some 3), none⟩])
 (.seq (.join [⟨3, [.sl [.sl [.i .i64]]], false⟩] 4194072 none (.seq (.rg [o1 4 (.lit [.i .i64] [.int .i64 (0)])])
 (.block 0 (.loop [⟨3, [.sl [.sl [.i .i64]]], false⟩, ⟨4, [.i .i64], false⟩] 4194072
  (.seq (.seq (.rg [o1 8 (.copy 4),
    o1 9 (.copy 0),
    o1 10 (.len 9),
    o1 11 (.data (.bin .lss) [.t 8, .t 10])])
  (.cond (.t 11)
   .skip
   (.exit 0)))
  (.seq (.block 1 (.rg [⟨true, [], [], .det 1 (.copy 3), [14], (some 14), none⟩,
    o1 15 (.copy 4),
    o1 16 (.copy 0),
    o1 17 (.copy 4),
    o1 18 (.index 16 (.t 17)),
    o1 19 (.load 16 [(0, 1)] 0 (.t 18) 1 false),
    o3 20 172 [.t 19],
    o1 21 (.index 14 (.t 15)),
    o4 2 [3, 20, 21, 14] (.store 3 [(0, 1)] 0 (.t 21) (.t 20))]))
  (.rg [o1 12 (.copy 4),
    o1 13 (.data (.bin .add) [.t 12, .c (.int .i64 (1))]),
    o1 4 (.copy 13)])))))))
 (.seq (.rg [⟨false, [], [], .det 2 (.copy 3), [22, 3], (some 22), none⟩,
   ⟨false, [], [], .det 2 (.copy 22), [2, 22], (some 2), none⟩])
 .ret))))
def s_ltoIntSS : Sig := ⟨[.rd false [.sl (.own none) [.sl (.own none) [.d]]]], (.one false [.sl (.own none) [.sl (.own none) [.d]]])⟩
noncomputable def E_ltoIntSS : TEnv := envOf [(172, p_ltoIntS)]
noncomputable def f_ltoIntSS (n : Nat) : List (List (Int)) → Option ((List (List (Int))) × Unit) := runFn n E_ltoIntSS c_ltoIntSS [[.sl [.sl [.i .i64]]]] [.sl [.sl [.i .i64]]] [] [2] .no
noncomputable def g_ltoIntSS := f_ltoIntSS BIG
noncomputable def p_ltoIntSS : TSp := ⟨s_ltoIntSS, [[.sl [.sl [.i .i64]]]], [.sl [.sl [.i .i64]]], [], Ou.j .no, g_ltoIntSS⟩
theorem k_ltoIntSS : chkW PG E_ltoIntSS 174 s_ltoIntSS (c_ltoIntSS.ht 23) .no = some (c_ltoIntSS.wc E_ltoIntSS, [2]) := by kernel_rfl
theorem ok_ltoIntSS : p_ltoIntSS.Ok PG 174 := mkOk (env_cons ok_ltoIntS (env_nil PG)) k_ltoIntSS (by kernel_rfl)
theorem e_ltoIntSS (n : Nat) (a0 : List ((List (Int)))) : f_ltoIntSS n a0 =
  bif decide (0 ≤ (a0.length : Int)) then
   bif decide ((Int.toNat (a0.length : Int)) ≤ 4294967296) then
    Option.bind (loopT n (X := (List ((List (Int)))) × Int) (B := (List ((List (Int))))) (fun self1 x0 =>
      bif decide (x0.2 < (a0.length : Int)) then
       bnd a0.length x0.2 fun n2 =>
       Option.bind a0[n2]? fun y3 =>
       Option.bind (g_ltoIntS y3) fun r4 =>
       bnd x0.1.length x0.2 fun n5 =>
       Option.bind x0.1[n5]? fun y6 =>
       self1 (x0.1.set n5 r4.1, IntKind.wrap .i64 (x0.2 + (1 : Int)))
      else some x0.1) (List.replicate (Int.toNat (a0.length : Int)) [], (0 : Int)) : Option ((List ((List (Int)))))) fun x7 =>
    some (x7, ())
   else none
  else none := by kernel_rfl
/- laws.toAsk -/
def c_ltoAsk : TC :=
 (.seq (.rg [o1 1 (.a (.t 0)),
   ⟨false, [], [], .det 2 (.a (.c [.i .i64, .i .i64, .i .i64, .i .i64] [.int .i64 (0), .int .i64 (0), .int .i64 (0), .int .i64 (0)])), [2, 1000000001], (some 2), none⟩])
 (.seq (.rg [⟨false, [], [], .det 2 (.a (.c [.i .i64, .i .i64, .i .i64, .i .i64] [.int .i64 (0), .int .i64 (0), .int .i64 (0), .int .i64 (0)])), [3, 1000000001], (some 3), none⟩])
 (.seq (.rg [o1 4 (.idx .nil),
   o1 5 (.load 1 [] 0 (.t 4) 1 false),
   o1 6 (.idx .nil),
   o4 1 [3] (.store 3 [] 0 (.t 6) (.t 5))])
 (.seq (.rg [o1 7 (.idx .nil),
   o1 8 (.load 1 [] 1 (.t 7) 1 false),
   o1 9 (.idx .nil),
   o4 1 [3] (.store 3 [] 1 (.t 9) (.t 8))])
 (.seq (.rg [o1 10 (.idx .nil),
   o1 11 (.load 1 [] 2 (.t 10) 1 false),
   o1 12 (.idx .nil),
   o4 1 [3] (.store 3 [] 2 (.t 12) (.t 11))])
 (.seq (.rg [o1 13 (.idx .nil),
   o1 14 (.load 1 [] 3 (.t 13) 1 false),
   o1 15 (.idx .nil),
   o4 1 [3] (.store 3 [] 3 (.t 15) (.t 14))])
 (.seq (.rg [o1 16 (.load 3 [] 0 .nil 4 false),
   o4 1 [2] (.store 2 [] 0 .nil (.t 16))])
 .ret)))))))
def s_ltoAsk : Sig := ⟨[.rd true [.d, .d, .d, .d]], (.one true [.d, .d, .d, .d])⟩
noncomputable def E_ltoAsk : TEnv := envOf []
noncomputable def f_ltoAsk (n : Nat) : (Int × Int × Int × Int) → Option ((Int × Int × Int × Int) × Unit) := runFn n E_ltoAsk c_ltoAsk [[.i .i64, .i .i64, .i .i64, .i .i64]] [.i .i64, .i .i64, .i .i64, .i .i64] [] [2] .no
noncomputable def g_ltoAsk := f_ltoAsk BIG
noncomputable def p_ltoAsk : TSp := ⟨s_ltoAsk, [[.i .i64, .i .i64, .i .i64, .i .i64]], [.i .i64, .i .i64, .i .i64, .i .i64], [], Ou.j .no, g_ltoAsk⟩
theorem k_ltoAsk : chkW PG E_ltoAsk 80 s_ltoAsk (c_ltoAsk.ht 17) .no = some (c_ltoAsk.wc E_ltoAsk, [2]) := by kernel_rfl
theorem ok_ltoAsk : p_ltoAsk.Ok PG 80 := mkOk (env_nil PG) k_ltoAsk (by kernel_rfl)
theorem e_ltoAsk (n : Nat) (a0 : Int × Int × Int × Int) : f_ltoAsk n a0 =
  some (a0, ()) := by kernel_rfl
/- laws.toOrder -/
def c_ltoOrder : TC :=
 (.seq (.rg [o1 1 (.a (.t 0)),
   ⟨false, [], [], .det 2 (.a (.c [.i .i64, .i .i64, .sl [.i .i64, .i .i64], .i .i64] [.int .i64 (0), .int .i64 (0), .slice none 0 0, .int .i64 (0)])), [2, 1000000001], (some 2), none⟩])
 (.seq (.rg [⟨false, [], [], .det 2 (.a (.c [.i .i64, .i .i64, .sl [.i .i64, .i .i64], .i .i64] [.int .i64 (0), .int .i64 (0), .slice none 0 0, .int .i64 (0)])), [3, 1000000001], (some 3), none⟩])
 (.seq (.rg [o1 4 (.idx .nil),
   o1 5 (.load 1 [] 0 (.t 4) 1 false),
   o1 6 (.idx .nil),
   o4 1 [3] (.store 3 [] 0 (.t 6) (.t 5))])
 (.seq (.rg [o1 7 (.idx .nil),
   o1 8 (.load 1 [] 1 (.t 7) 1 false),
   o1 9 (.idx .nil),
   o4 1 [3] (.store 3 [] 1 (.t 9) (.t 8))])
 (.seq (.rg [o1 10 (.idx .nil),
   o1 11 (.load 1 [] 2 (.t 10) 1 false),
   o3 12 173 [.t 11],
   o1 13 (.idx .nil),
   o4 2 [3, 12] (.store 3 [] 2 (.t 13) (.t 12))])
 (.seq (.rg [o1 14 (.idx .nil),
   o1 15 (.load 1 [] 3 (.t 14) 1 false),
   o1 16 (.idx .nil),
   o4 1 [3] (.store 3 [] 3 (.t 16) (.t 15))])
 (.seq (.rg [o1 17 (.load 3 [] 0 .nil 4 true),
   ⟨false, [17], [], .det 2 (.store 2 [] 0 .nil (.t 17)), [2, 17, 17, 3], none, none⟩])
 .ret)))))))
def s_ltoOrder : Sig := ⟨[.rd true [.d, .d, .sl (.own none) [.d, .d], .d]], (.one true [.d, .d, .sl (.own none) [.d, .d], .d])⟩
noncomputable def E_ltoOrder : TEnv := envOf [(173, p_ltoEdgeS)]
noncomputable def f_ltoOrder (n : Nat) : (Int × Int × List (Int × Int) × Int) → Option ((Int × Int × List (Int × Int) × Int) × Unit) := runFn n E_ltoOrder c_ltoOrder [[.i .i64, .i .i64, .sl [.i .i64, .i .i64], .i .i64]] [.i .i64, .i .i64, .sl [.i .i64, .i .i64], .i .i64] [] [2] .no
noncomputable def g_ltoOrder := f_ltoOrder BIG
noncomputable def p_ltoOrder : TSp := ⟨s_ltoOrder, [[.i .i64, .i .i64, .sl [.i .i64, .i .i64], .i .i64]], [.i .i64, .i .i64, .sl [.i .i64, .i .i64], .i .i64], [], Ou.j .no, g_ltoOrder⟩
theorem k_ltoOrder : chkW PG E_ltoOrder 285 s_ltoOrder (c_ltoOrder.ht 18) .no = some (c_ltoOrder.wc E_ltoOrder, [2]) := by kernel_rfl
theorem ok_ltoOrder : p_ltoOrder.Ok PG 285 := mkOk (env_cons ok_ltoEdgeS (env_nil PG)) k_ltoOrder (by kernel_rfl)
theorem e_ltoOrder (n : Nat) (a0 : Int × Int × List (Int × Int) × Int) : f_ltoOrder n a0 =
  Option.bind (g_ltoEdgeS a0.2.2.1) fun r0 =>
  some ((a0.1, a0.2.1, r0.1, a0.2.2.2), ()) := by kernel_rfl
/- laws.toTask -/
def c_ltoTask : TC :=
 (.seq (.rg [o1 1 (.a (.t 0)),
   ⟨false, [], [], .det 2 (.a (.c [.i .i64, .i .i64, .i .i64, .i .i64, .i .i64, .i .i64, .i .i64, .sl [.i .i64, .i .i64], .i .i64] [.int .i64 (0), .int .i64 (0), .int .i64 (0), .int .i64 (0), .int .i64 (0), .int .i64 (0), .int .i64 (0), .slice none 0 0, .int .i64 (0)])), [2, 1000000001], (some 2), none⟩])
 (.seq (.rg [⟨false, [], [], .det 2 (.a (.c [.i .i64, .i .i64, .i .i64, .i .i64, .i .i64, .i .i64, .i .i64, .sl [.i .i64, .i .i64], .i .i64] [.int .i64 (0), .int .i64 (0), .int .i64 (0), .int .i64 (0), .int .i64 (0), .int .i64 (0), .int .i64 (0), .slice none 0 0, .int .i64 (0)])), [3, 1000000001], (some 3), none⟩])
 (.seq (.rg [o1 4 (.idx .nil),
   o1 5 (.load 1 [] 0 (.t 4) 4 false),
   o3 6 80 [.t 5],
   o1 7 (.idx .nil),
   o4 1 [3] (.store 3 [] 0 (.t 7) (.t 6))])
 (.seq (.rg [o1 8 (.idx .nil),
   o1 9 (.load 1 [] 4 (.t 8) 1 false),
   o1 10 (.idx .nil),
   o4 1 [3] (.store 3 [] 4 (.t 10) (.t 9))])
 (.seq (.rg [o1 11 (.idx .nil),
   o1 12 (.load 1 [] 5 (.t 11) 4 false),
   o3 13 285 [.t 12],
   o1 14 (.idx .nil),
   o4 2 [3, 13] (.store 3 [] 5 (.t 14) (.t 13))])
 (.seq (.rg [o1 15 (.load 3 [] 0 .nil 9 true),
   ⟨false, [15], [], .det 2 (.store 2 [] 0 .nil (.t 15)), [2, 15, 15, 3], none, none⟩])
 .ret))))))
def s_ltoTask : Sig := ⟨[.rd true [.d, .d, .d, .d, .d, .d, .d, .sl (.own none) [.d, .d], .d]], (.one true [.d, .d, .d, .d, .d, .d, .d, .sl (.own none) [.d, .d], .d])⟩
noncomputable def E_ltoTask : TEnv := envOf [(80, p_ltoAsk), (285, p_ltoOrder)]
noncomputable def f_ltoTask (n : Nat) : (Int × Int × Int × Int × Int × Int × Int × List (Int × Int) × Int) → Option ((Int × Int × Int × Int × Int × Int × Int × List (Int × Int) × Int) × Unit) := runFn n E_ltoTask c_ltoTask [[.i .i64, .i .i64, .i .i64, .i .i64, .i .i64, .i .i64, .i .i64, .sl [.i .i64, .i .i64], .i .i64]] [.i .i64, .i .i64, .i .i64, .i .i64, .i .i64, .i .i64, .i .i64, .sl [.i .i64, .i .i64], .i .i64] [] [2] .no
noncomputable def g_ltoTask := f_ltoTask BIG
noncomputable def p_ltoTask : TSp := ⟨s_ltoTask, [[.i .i64, .i .i64, .i .i64, .i .i64, .i .i64, .i .i64, .i .i64, .sl [.i .i64, .i .i64], .i .i64]], [.i .i64, .i .i64, .i .i64, .i .i64, .i .i64, .i .i64, .i .i64, .sl [.i .i64, .i .i64], .i .i64], [], Ou.j .no, g_ltoTask⟩
theorem k_ltoTask : chkW PG E_ltoTask 175 s_ltoTask (c_ltoTask.ht 16) .no = some (c_ltoTask.wc E_ltoTask, [2]) := by kernel_rfl
theorem ok_ltoTask : p_ltoTask.Ok PG 175 := mkOk (env_cons ok_ltoAsk (env_cons ok_ltoOrder (env_nil PG))) k_ltoTask (by kernel_rfl)
theorem e_ltoTask (n : Nat) (a0 : Int × Int × Int × Int × Int × Int × Int × List (Int × Int) × Int) : f_ltoTask n a0 =
  Option.bind (g_ltoAsk (a0.1, a0.2.1, a0.2.2.1, a0.2.2.2.1)) fun r0 =>
  Option.bind (g_ltoOrder a0.2.2.2.2.2) fun r1 =>
  some ((r0.1.1, r0.1.2.1, r0.1.2.2.1, r0.1.2.2.2, a0.2.2.2.2.1, r1.1), ()) := by kernel_rfl
/- laws.toSaid -/
def c_ltoSaid : TC :=
 (.seq (.rg [o1 1 (.a (.t 0)),
   ⟨false, [], [], .det 2 (.a (.c [.i .i64, .i .i64, .i .i64, .i .i64, .i .i64, .i .i64] [.int .i64 (0), .int .i64 (0), .int .i64 (0), .int .i64 (0), .int .i64 (0), .int .i64 (0)])), [2, 1000000001], (some 2), none⟩])
 (.seq (.rg [⟨false, [], [], .det 2 (.a (.c [.i .i64, .i .i64, .i .i64, .i .i64, .i .i64, .i .i64] [.int .i64 (0), .int .i64 (0), .int .i64 (0), .int .i64 (0), .int .i64 (0), .int .i64 (0)])), [3, 1000000001], (some 3), none⟩])
 (.seq (.rg [o1 4 (.idx .nil),
   o1 5 (.load 1 [] 0 (.t 4) 1 false),
   o1 6 (.idx .nil),
   o4 1 [3] (.store 3 [] 0 (.t 6) (.t 5))])
 (.seq (.rg [o1 7 (.idx .nil),
   o1 8 (.load 1 [] 1 (.t 7) 4 false),
   o3 9 80 [.t 8],
   o1 10 (.idx .nil),
   o4 1 [3] (.store 3 [] 1 (.t 10) (.t 9))])
 (.seq (.rg [o1 11 (.idx .nil),
   o1 12 (.load 1 [] 5 (.t 11) 1 false),
   o1 13 (.idx .nil),
   o4 1 [3] (.store 3 [] 5 (.t 13) (.t 12))])
 (.seq (.rg [o1 14 (.load 3 [] 0 .nil 6 false),
   o4 1 [2] (.store 2 [] 0 .nil (.t 14))])
 .ret))))))
def s_ltoSaid : Sig := ⟨[.rd true [.d, .d, .d, .d, .d, .d]], (.one true [.d, .d, .d, .d, .d, .d])⟩
noncomputable def E_ltoSaid : TEnv := envOf [(80, p_ltoAsk)]
noncomputable def f_ltoSaid (n : Nat) : (Int × Int × Int × Int × Int × Int) → Option ((Int × Int × Int × Int × Int × Int) × Unit) := runFn n E_ltoSaid c_ltoSaid [[.i .i64, .i .i64, .i .i64, .i .i64, .i .i64, .i .i64]] [.i .i64, .i .i64, .i .i64, .i .i64, .i .i64, .i .i64] [] [2] .no
noncomputable def g_ltoSaid := f_ltoSaid BIG
noncomputable def p_ltoSaid : TSp := ⟨s_ltoSaid, [[.i .i64, .i .i64, .i .i64, .i .i64, .i .i64, .i .i64]], [.i .i64, .i .i64, .i .i64, .i .i64, .i .i64, .i .i64], [], Ou.j .no, g_ltoSaid⟩
theorem k_ltoSaid : chkW PG E_ltoSaid 286 s_ltoSaid (c_ltoSaid.ht 15) .no = some (c_ltoSaid.wc E_ltoSaid, [2]) := by kernel_rfl
theorem ok_ltoSaid : p_ltoSaid.Ok PG 286 := mkOk (env_cons ok_ltoAsk (env_nil PG)) k_ltoSaid (by kernel_rfl)
theorem e_ltoSaid (n : Nat) (a0 : Int × Int × Int × Int × Int × Int) : f_ltoSaid n a0 =
  Option.bind (g_ltoAsk (a0.2.1, a0.2.2.1, a0.2.2.2.1, a0.2.2.2.2.1)) fun r0 =>
  some ((a0.1, r0.1.1, r0.1.2.1, r0.1.2.2.1, r0.1.2.2.2, a0.2.2.2.2.2), ()) := by kernel_rfl
/- laws.toSaidS -/
def c_ltoSaidS : TC :=
 (.seq (.rg [o1 2 (.lit [.sl [.i .i64, .i .i64, .i .i64, .i .i64, .i .i64, .i .i64]] [.slice none 0 0])])
 (.seq (.rg [o1 5 (.copy 0),
   o1 6 (.len 5),
   o1 7 (.make (.t 6) [.i .i64, .i .i64, .i .i64, .i .i64, .i .i64, .i .i64]),
   ⟨false, [], [], .det 2 (.copy 7), [3, 7], (some 3), none⟩])
 (.seq (.join [⟨3, [.sl [.i .i64, .i .i64, .i .i64, .i .i64, .i .i64, .i .i64]], false⟩] 4194072 none (.seq (.rg [o1 4 (.lit [.i .i64] [.int .i64 (0)])])
 (.block 0 (.loop [⟨3, [.sl [.i .i64, .i .i64, .i .i64, .i .i64, .i .i64, .i .i64]], false⟩, ⟨4, [.i .i64], false⟩] 4194072
  (.seq (.seq (.rg [o1 8 (.copy 4),
    o1 9 (.copy 0),
    o1 10 (.len 9),
    o1 11 (.data (.bin .lss) [.t 8, .t 10])])
  (.cond (.t 11)
   .skip
   (.exit 0)))
  (.seq (.block 1 (.rg [⟨true, [], [], .det 1 (.copy 3), [14], (some 14), none⟩,
    o1 15 (.copy 4),
    o1 16 (.copy 0),
    o1 17 (.copy 4),
    o1 18 (.index 16 (.t 17)),
    o1 19 (.load 16 [(0, 6)] 0 (.t 18) 6 false),
    o3 20 286 [.t 19],
    o1 21 (.index 14 (.t 15)),
    o4 1 [3, 14] (.store 3 [(0, 6)] 0 (.t 21) (.t 20))]))
  (.rg [o1 12 (.copy 4),
    o1 13 (.data (.bin .add) [.t 12, .c (.int .i64 (1))]),
    o1 4 (.copy 13)])))))))
 (.seq (.rg [⟨false, [], [], .det 2 (.copy 3), [22, 3], (some 22), none⟩,
   ⟨false, [], [], .det 2 (.copy 22), [2, 22], (some 2), none⟩])
 .ret))))
def s_ltoSaidS : Sig := ⟨[.rd false [.sl (.own none) [.d, .d, .d, .d, .d, .d]]], (.one false [.sl (.own none) [.d, .d, .d, .d, .d, .d]])⟩
noncomputable def E_ltoSaidS : TEnv := envOf [(286, p_ltoSaid)]
noncomputable def f_ltoSaidS (n : Nat) : (List (Int × Int × Int × Int × Int × Int)) → Option ((List (Int × Int × Int × Int × Int × Int)) × Unit) := runFn n E_ltoSaidS c_ltoSaidS [[.sl [.i .i64, .i .i64, .i .i64, .i .i64, .i .i64, .i .i64]]] [.sl [.i .i64, .i .i64, .i .i64, .i .i64, .i .i64, .i .i64]] [] [2] .no
noncomputable def g_ltoSaidS := f_ltoSaidS BIG
noncomputable def p_ltoSaidS : TSp := ⟨s_ltoSaidS, [[.sl [.i .i64, .i .i64, .i .i64, .i .i64, .i .i64, .i .i64]]], [.sl [.i .i64, .i .i64, .i .i64, .i .i64, .i .i64, .i .i64]], [], Ou.j .no, g_ltoSaidS⟩
theorem k_ltoSaidS : chkW PG E_ltoSaidS 176 s_ltoSaidS (c_ltoSaidS.ht 23) .no = some (c_ltoSaidS.wc E_ltoSaidS, [2]) := by kernel_rfl
theorem ok_ltoSaidS : p_ltoSaidS.Ok PG 176 := mkOk (env_cons ok_ltoSaid (env_nil PG)) k_ltoSaidS (by kernel_rfl)
theorem e_ltoSaidS (n : Nat) (a0 : List (Int × Int × Int × Int × Int × Int)) : f_ltoSaidS n a0 =
  bif decide (0 ≤ (a0.length : Int)) then
   bif decide ((Int.toNat (a0.length : Int)) ≤ 4294967296) then
    Option.bind (loopT n (X := (List (Int × Int × Int × Int × Int × Int)) × Int) (B := (List (Int × Int × Int × Int × Int × Int))) (fun self1 x0 =>
      bif decide (x0.2 < (a0.length : Int)) then
       bnd a0.length x0.2 fun n2 =>
       Option.bind a0[n2]? fun y3 =>
       Option.bind (g_ltoSaid y3) fun r4 =>
       bnd x0.1.length x0.2 fun n5 =>
       Option.bind x0.1[n5]? fun y6 =>
       self1 (x0.1.set n5 r4.1, IntKind.wrap .i64 (x0.2 + (1 : Int)))
      else some x0.1) (List.replicate (Int.toNat (a0.length : Int)) ((0 : Int), (0 : Int), (0 : Int), (0 : Int), (0 : Int), (0 : Int)), (0 : Int)) : Option ((List (Int × Int × Int × Int × Int × Int)))) fun x7 =>
    some (x7, ())
   else none
  else none := by kernel_rfl
/- laws.toHead -/
def c_ltoHead : TC :=
 (.seq (.rg [o1 1 (.a (.t 0)),
   ⟨false, [], [], .det 2 (.a (.c [.i .i64, .sl [.i .i64], .sl [.i .i64, .i .i64], .sl [.sl [.i .i64]], .sl [.i .i64], .i .i64, .i .i64, .i .i64, .i .i64, .i .i64, .i .i64, .i .i64, .sl [.i .i64, .i .i64], .i .i64, .sl [.i .i64, .i .i64, .i .i64, .i .i64, .i .i64, .i .i64]] [.int .i64 (0), .slice none 0 0, .slice none 0 0, .slice none 0 0, .slice none 0 0, .int .i64 (0), .int .i64 (0), .int .i64 (0), .int .i64 (0), .int .i64 (0), .int .i64 (0), .int .i64 (0), .slice none 0 0, .int .i64 (0), .slice none 0 0])), [2, 1000000001], (some 2), none⟩])
 (.seq (.rg [⟨false, [], [], .det 2 (.a (.c [.i .i64, .sl [.i .i64], .sl [.i .i64, .i .i64], .sl [.sl [.i .i64]], .sl [.i .i64], .i .i64, .i .i64, .i .i64, .i .i64, .i .i64, .i .i64, .i .i64, .sl [.i .i64, .i .i64], .i .i64, .sl [.i .i64, .i .i64, .i .i64, .i .i64, .i .i64, .i .i64]] [.int .i64 (0), .slice none 0 0, .slice none 0 0, .slice none 0 0, .slice none 0 0, .int .i64 (0), .int .i64 (0), .int .i64 (0), .int .i64 (0), .int .i64 (0), .int .i64 (0), .int .i64 (0), .slice none 0 0, .int .i64 (0), .slice none 0 0])), [3, 1000000001], (some 3), none⟩])
 (.seq (.rg [o1 4 (.idx .nil),
   o1 5 (.load 1 [] 0 (.t 4) 1 false),
   o1 6 (.idx .nil),
   o4 1 [3] (.store 3 [] 0 (.t 6) (.t 5))])
 (.seq (.rg [o1 7 (.idx .nil),
   o1 8 (.load 1 [] 1 (.t 7) 1 false),
   o3 9 172 [.t 8],
   o1 10 (.idx .nil),
   o4 2 [3, 9] (.store 3 [] 1 (.t 10) (.t 9))])
 (.seq (.rg [o1 11 (.idx .nil),
   o1 12 (.load 1 [] 2 (.t 11) 1 false),
   o3 13 173 [.t 12],
   o1 14 (.idx .nil),
   o4 2 [3, 13] (.store 3 [] 2 (.t 14) (.t 13))])
 (.seq (.rg [o1 15 (.idx .nil),
   o1 16 (.load 1 [] 3 (.t 15) 1 false),
   o3 17 174 [.t 16],
   o1 18 (.idx .nil),
   o4 2 [3, 17] (.store 3 [] 3 (.t 18) (.t 17))])
 (.seq (.rg [o1 19 (.idx .nil),
   o1 20 (.load 1 [] 4 (.t 19) 1 false),
   o3 21 172 [.t 20],
   o1 22 (.idx .nil),
   o4 2 [3, 21] (.store 3 [] 4 (.t 22) (.t 21))])
 (.seq (.rg [o1 23 (.idx .nil),
   o1 24 (.load 1 [] 5 (.t 23) 9 false),
   o3 25 175 [.t 24],
   o1 26 (.idx .nil),
   o4 2 [3, 25] (.store 3 [] 5 (.t 26) (.t 25))])
 (.seq (.rg [o1 27 (.idx .nil),
   o1 28 (.load 1 [] 14 (.t 27) 1 false),
   o3 29 176 [.t 28],
   o1 30 (.idx .nil),
   o4 2 [3, 29] (.store 3 [] 14 (.t 30) (.t 29))])
 (.seq (.rg [o1 31 (.load 3 [] 0 .nil 15 true),
   ⟨false, [31], [], .det 2 (.store 2 [] 0 .nil (.t 31)), [2, 31, 31, 3], none, none⟩])
 .ret))))))))))
def s_ltoHead : Sig := ⟨[.rd true [.d, .sl (.own none) [.d], .sl (.own none) [.d, .d], .sl (.own none) [.sl (.own none) [.d]], .sl (.own none) [.d], .d, .d, .d, .d, .d, .d, .d, .sl (.own none) [.d, .d], .d, .sl (.own none) [.d, .d, .d, .d, .d, .d]]], (.one true [.d, .sl (.own none) [.d], .sl (.own none) [.d, .d], .sl (.own none) [.sl (.own none) [.d]], .sl (.own none) [.d], .d, .d, .d, .d, .d, .d, .d, .sl (.own none) [.d, .d], .d, .sl (.own none) [.d, .d, .d, .d, .d, .d]])⟩
noncomputable def E_ltoHead : TEnv := envOf [(172, p_ltoIntS), (173, p_ltoEdgeS), (174, p_ltoIntSS), (175, p_ltoTask), (176, p_ltoSaidS)]
noncomputable def f_ltoHead (n : Nat) : (Int × List (Int) × List (Int × Int) × List (List (Int)) × List (Int) × Int × Int × Int × Int × Int × Int × Int × List (Int × Int) × Int × List (Int × Int × Int × Int × Int × Int)) → Option ((Int × List (Int) × List (Int × Int) × List (List (Int)) × List (Int) × Int × Int × Int × Int × Int × Int × Int × List (Int × Int) × Int × List (Int × Int × Int × Int × Int × Int)) × Unit) := runFn n E_ltoHead c_ltoHead [[.i .i64, .sl [.i .i64], .sl [.i .i64, .i .i64], .sl [.sl [.i .i64]], .sl [.i .i64], .i .i64, .i .i64, .i .i64, .i .i64, .i .i64, .i .i64, .i .i64, .sl [.i .i64, .i .i64], .i .i64, .sl [.i .i64, .i .i64, .i .i64, .i .i64, .i .i64, .i .i64]]] [.i .i64, .sl [.i .i64], .sl [.i .i64, .i .i64], .sl [.sl [.i .i64]], .sl [.i .i64], .i .i64, .i .i64, .i .i64, .i .i64, .i .i64, .i .i64, .i .i64, .sl [.i .i64, .i .i64], .i .i64, .sl [.i .i64, .i .i64, .i .i64, .i .i64, .i .i64, .i .i64]] [] [2] .no
noncomputable def g_ltoHead := f_ltoHead BIG
noncomputable def p_ltoHead : TSp := ⟨s_ltoHead, [[.i .i64, .sl [.i .i64], .sl [.i .i64, .i .i64], .sl [.sl [.i .i64]], .sl [.i .i64], .i .i64, .i .i64, .i .i64, .i .i64, .i .i64, .i .i64, .i .i64, .sl [.i .i64, .i .i64], .i .i64, .sl [.i .i64, .i .i64, .i .i64, .i .i64, .i .i64, .i .i64]]], [.i .i64, .sl [.i .i64], .sl [.i .i64, .i .i64], .sl [.sl [.i .i64]], .sl [.i .i64], .i .i64, .i .i64, .i .i64, .i .i64, .i .i64, .i .i64, .i .i64, .sl [.i .i64, .i .i64], .i .i64, .sl [.i .i64, .i .i64, .i .i64, .i .i64, .i .i64, .i .i64]], [], Ou.j .no, g_ltoHead⟩
theorem k_ltoHead : chkW PG E_ltoHead 71 s_ltoHead (c_ltoHead.ht 32) .no = some (c_ltoHead.wc E_ltoHead, [2]) := by kernel_rfl
theorem ok_ltoHead : p_ltoHead.Ok PG 71 := mkOk (env_cons ok_ltoIntS (env_cons ok_ltoEdgeS (env_cons ok_ltoIntSS (env_cons ok_ltoTask (env_cons ok_ltoSaidS (env_nil PG)))))) k_ltoHead (by kernel_rfl)
theorem e_ltoHead (n : Nat) (a0 : Int × List (Int) × List (Int × Int) × List ((List (Int))) × List (Int) × Int × Int × Int × Int × Int × Int × Int × List (Int × Int) × Int × List (Int × Int × Int × Int × Int × Int)) : f_ltoHead n a0 =
  Option.bind (g_ltoIntS a0.2.1) fun r0 =>
  Option.bind (g_ltoEdgeS a0.2.2.1) fun r1 =>
  Option.bind (g_ltoIntSS a0.2.2.2.1) fun r2 =>
  Option.bind (g_ltoIntS a0.2.2.2.2.1) fun r3 =>
  Option.bind (g_ltoTask (a0.2.2.2.2.2.1, a0.2.2.2.2.2.2.1, a0.2.2.2.2.2.2.2.1, a0.2.2.2.2.2.2.2.2.1, a0.2.2.2.2.2.2.2.2.2.1, a0.2.2.2.2.2.2.2.2.2.2.1, a0.2.2.2.2.2.2.2.2.2.2.2.1, a0.2.2.2.2.2.2.2.2.2.2.2.2.1, a0.2.2.2.2.2.2.2.2.2.2.2.2.2.1)) fun r4 =>
  Option.bind (g_ltoSaidS a0.2.2.2.2.2.2.2.2.2.2.2.2.2.2) fun r5 =>
  some ((a0.1, r0.1, r1.1, r2.1, r3.1, r4.1.1, r4.1.2.1, r4.1.2.2.1, r4.1.2.2.2.1, r4.1.2.2.2.2.1, r4.1.2.2.2.2.2.1, r4.1.2.2.2.2.2.2.1, r4.1.2.2.2.2.2.2.2.1, r4.1.2.2.2.2.2.2.2.2, r5.1), ()) := by kernel_rfl
/- laws.toAnswer -/
def c_ltoAnswer : TC :=
 (.seq (.rg [o1 1 (.a (.t 0)),
   ⟨false, [], [], .det 2 (.a (.c [.i .i64, .b, .sl [.i .i64, .i .i64], .sl [.i .i64]] [.int .i64 (0), .bool false, .slice none 0 0, .slice none 0 0])), [2, 1000000001], (some 2), none⟩])
 (.seq (.rg [⟨false, [], [], .det 2 (.a (.c [.i .i64, .b, .sl [.i .i64, .i .i64], .sl [.i .i64]] [.int .i64 (0), .bool false, .slice none 0 0, .slice none 0 0])), [3, 1000000001], (some 3), none⟩])
 (.seq (.rg [o1 4 (.idx .nil),
   o1 5 (.load 1 [] 0 (.t 4) 1 false),
   o1 6 (.idx .nil),
   o4 1 [3] (.store 3 [] 0 (.t 6) (.t 5))])
 (.seq (.rg [o1 7 (.idx .nil),
   o1 8 (.load 1 [] 1 (.t 7) 1 false),
   o1 9 (.idx .nil),
   o4 1 [3] (.store 3 [] 1 (.t 9) (.t 8))])
 (.seq (.rg [o1 10 (.idx .nil),
   o1 11 (.load 1 [] 2 (.t 10) 1 false),
   o3 12 173 [.t 11],
   o1 13 (.idx .nil),
   o4 2 [3, 12] (.store 3 [] 2 (.t 13) (.t 12))])
 (.seq (.rg [o1 14 (.idx .nil),
   o1 15 (.load 1 [] 3 (.t 14) 1 false),
   o3 16 172 [.t 15],
   o1 17 (.idx .nil),
   o4 2 [3, 16] (.store 3 [] 3 (.t 17) (.t 16))])
 (.seq (.rg [o1 18 (.load 3 [] 0 .nil 4 true),
   ⟨false, [18], [], .det 2 (.store 2 [] 0 .nil (.t 18)), [2, 18, 18, 3], none, none⟩])
 .ret)))))))
def s_ltoAnswer : Sig := ⟨[.rd true [.d, .d, .sl (.own none) [.d, .d], .sl (.own none) [.d]]], (.one true [.d, .d, .sl (.own none) [.d, .d], .sl (.own none) [.d]])⟩
noncomputable def E_ltoAnswer : TEnv := envOf [(173, p_ltoEdgeS), (172, p_ltoIntS)]
noncomputable def f_ltoAnswer (n : Nat) : (Int × Bool × List (Int × Int) × List (Int)) → Option ((Int × Bool × List (Int × Int) × List (Int)) × Unit) := runFn n E_ltoAnswer c_ltoAnswer [[.i .i64, .b, .sl [.i .i64, .i .i64], .sl [.i .i64]]] [.i .i64, .b, .sl [.i .i64, .i .i64], .sl [.i .i64]] [] [2] .no
noncomputable def g_ltoAnswer := f_ltoAnswer BIG
noncomputable def p_ltoAnswer : TSp := ⟨s_ltoAnswer, [[.i .i64, .b, .sl [.i .i64, .i .i64], .sl [.i .i64]]], [.i .i64, .b, .sl [.i .i64, .i .i64], .sl [.i .i64]], [], Ou.j .no, g_ltoAnswer⟩
theorem k_ltoAnswer : chkW PG E_ltoAnswer 72 s_ltoAnswer (c_ltoAnswer.ht 19) .no = some (c_ltoAnswer.wc E_ltoAnswer, [2]) := by kernel_rfl
theorem ok_ltoAnswer : p_ltoAnswer.Ok PG 72 := mkOk (env_cons ok_ltoEdgeS (env_cons ok_ltoIntS (env_nil PG))) k_ltoAnswer (by kernel_rfl)
theorem e_ltoAnswer (n : Nat) (a0 : Int × Bool × List (Int × Int) × List (Int)) : f_ltoAnswer n a0 =
  Option.bind (g_ltoEdgeS a0.2.2.1) fun r0 =>
  Option.bind (g_ltoIntS a0.2.2.2) fun r1 =>
  some ((a0.1, a0.2.1, r0.1, r1.1), ()) := by kernel_rfl
/- spec.l09CopyOrder -/
def c_sl09CopyOrder : TC :=
 (.seq (.rg [o1 1 (.a (.t 0)),
   ⟨false, [], [], .det 2 (.a (.c [.i .i64, .i .i64, .sl [.i .i64, .i .i64], .i .i64] [.int .i64 (0), .int .i64 (0), .slice none 0 0, .int .i64 (0)])), [2, 1000000001], (some 2), none⟩])
 (.seq (.rg [o1 3 (.sli [.i .i64, .i .i64] []),
   o1 4 (.idx .nil),
   o1 5 (.load 1 [] 2 (.t 4) 1 false),
   ⟨false, [], [], .det 2 (.app (some 3) 5), [6, 3], (some 6), none⟩,
   o1 7 (.idx .nil),
   o4 2 [1, 6] (.store 1 [] 2 (.t 7) (.t 6))])
 (.seq (.rg [o1 8 (.load 1 [] 0 .nil 4 true),
   ⟨false, [8], [], .det 2 (.store 2 [] 0 .nil (.t 8)), [2, 8, 8, 1], none, none⟩])
 .ret)))
def s_sl09CopyOrder : Sig := ⟨[.rd true [.d, .d, .sl (.own none) [.d, .d], .d]], (.one true [.d, .d, .sl (.own none) [.d, .d], .d])⟩
noncomputable def E_sl09CopyOrder : TEnv := envOf []
noncomputable def f_sl09CopyOrder (n : Nat) : (Int × Int × List (Int × Int) × Int) → Option ((Int × Int × List (Int × Int) × Int) × Unit) := runFn n E_sl09CopyOrder c_sl09CopyOrder [[.i .i64, .i .i64, .sl [.i .i64, .i .i64], .i .i64]] [.i .i64, .i .i64, .sl [.i .i64, .i .i64], .i .i64] [] [2] .no
noncomputable def g_sl09CopyOrder := f_sl09CopyOrder BIG
noncomputable def p_sl09CopyOrder : TSp := ⟨s_sl09CopyOrder, [[.i .i64, .i .i64, .sl [.i .i64, .i .i64], .i .i64]], [.i .i64, .i .i64, .sl [.i .i64, .i .i64], .i .i64], [], Ou.j .no, g_sl09CopyOrder⟩
theorem k_sl09CopyOrder : chkW PG E_sl09CopyOrder 281 s_sl09CopyOrder (c_sl09CopyOrder.ht 9) .no = some (c_sl09CopyOrder.wc E_sl09CopyOrder, [2]) := by kernel_rfl
theorem ok_sl09CopyOrder : p_sl09CopyOrder.Ok PG 281 := mkOk (env_nil PG) k_sl09CopyOrder (by kernel_rfl)
theorem e_sl09CopyOrder (n : Nat) (a0 : Int × Int × List (Int × Int) × Int) : f_sl09CopyOrder n a0 =
  bif decide (0 + a0.2.2.1.length ≤ 4294967296) then
   some ((a0.1, a0.2.1, [] ++ a0.2.2.1, a0.2.2.2), ())
  else none := by kernel_rfl
/- spec.l12Copy -/
def c_sl12Copy : TC :=
 (.seq (.rg [o1 1 (.a (.t 0)),
   ⟨false, [], [], .det 2 (.a (.c [.i .i64, .sl [.i .i64], .sl [.i .i64, .i .i64], .sl [.sl [.i .i64]], .sl [.i .i64], .i .i64, .i .i64, .i .i64, .i .i64, .i .i64, .i .i64, .i .i64, .sl [.i .i64, .i .i64], .i .i64, .sl [.i .i64, .i .i64, .i .i64, .i .i64, .i .i64, .i .i64]] [.int .i64 (0), .slice none 0 0, .slice none 0 0, .slice none 0 0, .slice none 0 0, .int .i64 (0), .int .i64 (0), .int .i64 (0), .int .i64 (0), .int .i64 (0), .int .i64 (0), .int .i64 (0), .slice none 0 0, .int .i64 (0), .slice none 0 0])), [2, 1000000001], (some 2), none⟩])
 (.seq (.rg [o1 5 (.sli [.i .i64] []),
   o1 6 (.idx .nil),
   o1 7 (.load 1 [] 1 (.t 6) 1 false),
   ⟨false, [], [], .det 2 (.app (some 5) 7), [8, 5], (some 8), none⟩,
   o1 9 (.idx .nil),
   o4 2 [1, 8] (.store 1 [] 1 (.t 9) (.t 8))])
 (.seq (.rg [o1 10 (.sli [.i .i64, .i .i64] []),
   o1 11 (.idx .nil),
   o1 12 (.load 1 [] 2 (.t 11) 1 false),
   ⟨false, [], [], .det 2 (.app (some 10) 12), [13, 10], (some 13), none⟩,
   o1 14 (.idx .nil),
   o4 2 [1, 13] (.store 1 [] 2 (.t 14) (.t 13))])
 (.seq (.rg [o1 15 (.sli [.i .i64] []),
   o1 16 (.idx .nil),
   o1 17 (.load 1 [] 4 (.t 16) 1 false),
   ⟨false, [], [], .det 2 (.app (some 15) 17), [18, 15], (some 18), none⟩,
   o1 19 (.idx .nil),
   o4 2 [1, 18] (.store 1 [] 4 (.t 19) (.t 18))])
 (.seq (.rg [o1 20 (.sli [.i .i64, .i .i64, .i .i64, .i .i64, .i .i64, .i .i64] []),
   o1 21 (.idx .nil),
   o1 22 (.load 1 [] 14 (.t 21) 1 false),
   ⟨false, [], [], .det 2 (.app (some 20) 22), [23, 20], (some 23), none⟩,
   o1 24 (.idx .nil),
   o4 2 [1, 23] (.store 1 [] 14 (.t 24) (.t 23))])
 (.seq (.rg [o1 25 (.sli [.sl [.i .i64]] []),
   ⟨false, [], [], .det 2 (.copy 25), [3, 25], (some 3), none⟩])
 (.seq (.join [⟨3, [.sl [.sl [.i .i64]]], false⟩] 8796025913368 none (.seq (.rg [o1 4 (.lit [.i .i64] [.int .i64 (0)])])
 (.block 0 (.loop [⟨3, [.sl [.sl [.i .i64]]], false⟩, ⟨4, [.i .i64], false⟩] 8796025913368
  (.seq (.seq (.rg [o1 26 (.copy 4),
    o1 27 (.idx .nil),
    o1 28 (.load 1 [] 3 (.t 27) 1 false),
    o1 29 (.len 28),
    o1 30 (.data (.bin .lss) [.t 26, .t 29])])
  (.cond (.t 30)
   .skip
   (.exit 0)))
  (.seq (.block 1 (.rg [⟨false, [], [], .det 2 (.copy 3), [33, 3], (some 33), none⟩,
    o1 34 (.sli [.i .i64] []),
    o1 35 (.idx .nil),
    o1 36 (.load 1 [] 3 (.t 35) 1 false),
    o1 37 (.copy 4),
    o1 38 (.index 36 (.t 37)),
    o1 39 (.load 36 [(0, 1)] 0 (.t 38) 1 false),
    ⟨false, [], [], .det 2 (.app (some 34) 39), [40, 34], (some 40), none⟩,
    ⟨false, [], [], .det 2 (.sli [.sl [.i .i64]] [.t 40]), [41, 40], (some 41), none⟩,
    ⟨false, [], [], .det 3 (.app (some 33) 41), [42, 33, 41], (some 42), none⟩,
    ⟨false, [], [], .det 2 (.copy 42), [3, 42], (some 3), none⟩]))
  (.rg [o1 31 (.copy 4),
    o1 32 (.data (.bin .add) [.t 31, .c (.int .i64 (1))]),
    o1 4 (.copy 32)])))))))
 (.seq (.rg [⟨false, [], [], .det 2 (.copy 3), [43, 3], (some 43), none⟩,
   o1 44 (.idx .nil),
   o4 2 [1, 43] (.store 1 [] 3 (.t 44) (.t 43))])
 (.seq (.rg [o1 45 (.idx .nil),
   o1 46 (.idx (.t 45)),
   o1 47 (.load 1 [] 10 (.t 46) 4 false),
   o3 48 281 [.t 47],
   o1 49 (.idx .nil),
   o1 50 (.idx (.t 49)),
   o4 2 [1, 48] (.store 1 [] 10 (.t 50) (.t 48))])
 (.seq (.rg [o1 51 (.load 1 [] 0 .nil 15 true),
   ⟨false, [51], [], .det 2 (.store 2 [] 0 .nil (.t 51)), [2, 51, 51, 1], none, none⟩])
 .ret))))))))))
def s_sl12Copy : Sig := ⟨[.rd true [.d, .sl (.own none) [.d], .sl (.own none) [.d, .d], .sl (.own none) [.sl (.own none) [.d]], .sl (.own none) [.d], .d, .d, .d, .d, .d, .d, .d, .sl (.own none) [.d, .d], .d, .sl (.own none) [.d, .d, .d, .d, .d, .d]]], (.one true [.d, .sl (.own none) [.d], .sl (.own none) [.d, .d], .sl (.own none) [.sl (.own none) [.d]], .sl (.own none) [.d], .d, .d, .d, .d, .d, .d, .d, .sl (.own none) [.d, .d], .d, .sl (.own none) [.d, .d, .d, .d, .d, .d]])⟩
noncomputable def E_sl12Copy : TEnv := envOf [(281, p_sl09CopyOrder)]
noncomputable def f_sl12Copy (n : Nat) : (Int × List (Int) × List (Int × Int) × List (List (Int)) × List (Int) × Int × Int × Int × Int × Int × Int × Int × List (Int × Int) × Int × List (Int × Int × Int × Int × Int × Int)) → Option ((Int × List (Int) × List (Int × Int) × List (List (Int)) × List (Int) × Int × Int × Int × Int × Int × Int × Int × List (Int × Int) × Int × List (Int × Int × Int × Int × Int × Int)) × Unit) := runFn n E_sl12Copy c_sl12Copy [[.i .i64, .sl [.i .i64], .sl [.i .i64, .i .i64], .sl [.sl [.i .i64]], .sl [.i .i64], .i .i64, .i .i64, .i .i64, .i .i64, .i .i64, .i .i64, .i .i64, .sl [.i .i64, .i .i64], .i .i64, .sl [.i .i64, .i .i64, .i .i64, .i .i64, .i .i64, .i .i64]]] [.i .i64, .sl [.i .i64], .sl [.i .i64, .i .i64], .sl [.sl [.i .i64]], .sl [.i .i64], .i .i64, .i .i64, .i .i64, .i .i64, .i .i64, .i .i64, .i .i64, .sl [.i .i64, .i .i64], .i .i64, .sl [.i .i64, .i .i64, .i .i64, .i .i64, .i .i64, .i .i64]] [] [2] .no
noncomputable def g_sl12Copy := f_sl12Copy BIG
noncomputable def p_sl12Copy : TSp := ⟨s_sl12Copy, [[.i .i64, .sl [.i .i64], .sl [.i .i64, .i .i64], .sl [.sl [.i .i64]], .sl [.i .i64], .i .i64, .i .i64, .i .i64, .i .i64, .i .i64, .i .i64, .i .i64, .sl [.i .i64, .i .i64], .i .i64, .sl [.i .i64, .i .i64, .i .i64, .i .i64, .i .i64, .i .i64]]], [.i .i64, .sl [.i .i64], .sl [.i .i64, .i .i64], .sl [.sl [.i .i64]], .sl [.i .i64], .i .i64, .i .i64, .i .i64, .i .i64, .i .i64, .i .i64, .i .i64, .sl [.i .i64, .i .i64], .i .i64, .sl [.i .i64, .i .i64, .i .i64, .i .i64, .i .i64, .i .i64]], [], Ou.j .no, g_sl12Copy⟩
theorem k_sl12Copy : chkW PG E_sl12Copy 167 s_sl12Copy (c_sl12Copy.ht 52) .no = some (c_sl12Copy.wc E_sl12Copy, [2]) := by kernel_rfl
theorem ok_sl12Copy : p_sl12Copy.Ok PG 167 := mkOk (env_cons ok_sl09CopyOrder (env_nil PG)) k_sl12Copy (by kernel_rfl)
theorem e_sl12Copy (n : Nat) (a0 : Int × List (Int) × List (Int × Int) × List ((List (Int))) × List (Int) × Int × Int × Int × Int × Int × Int × Int × List (Int × Int) × Int × List (Int × Int × Int × Int × Int × Int)) : f_sl12Copy n a0 =
  bif decide (0 + a0.2.1.length ≤ 4294967296) then
   bif decide (0 + a0.2.2.1.length ≤ 4294967296) then
    bif decide (0 + a0.2.2.2.2.1.length ≤ 4294967296) then
     bif decide (0 + a0.2.2.2.2.2.2.2.2.2.2.2.2.2.2.length ≤ 4294967296) then
      Option.bind (loopT n (X := (List ((List (Int)))) × Int) (B := (List ((List (Int))))) (fun self1 x0 =>
        bif decide (x0.2 < (a0.2.2.2.1.length : Int)) then
         bnd a0.2.2.2.1.length x0.2 fun n2 =>
         Option.bind a0.2.2.2.1[n2]? fun y3 =>
         bif decide (0 + y3.length ≤ 4294967296) then
          bif decide (x0.1.length + ([[] ++ y3]).length ≤ 4294967296) then
           self1 (x0.1 ++ ([[] ++ y3]), IntKind.wrap .i64 (x0.2 + (1 : Int)))
          else none
         else none
        else some x0.1) ([], (0 : Int)) : Option ((List ((List (Int)))))) fun x4 =>
      Option.bind (g_sl09CopyOrder (a0.2.2.2.2.2.2.2.2.2.2.1, a0.2.2.2.2.2.2.2.2.2.2.2.1, a0.2.2.2.2.2.2.2.2.2.2.2.2.1, a0.2.2.2.2.2.2.2.2.2.2.2.2.2.1)) fun r5 =>
      some ((a0.1, [] ++ a0.2.1, [] ++ a0.2.2.1, x4, [] ++ a0.2.2.2.2.1, a0.2.2.2.2.2.1, a0.2.2.2.2.2.2.1, a0.2.2.2.2.2.2.2.1, a0.2.2.2.2.2.2.2.2.1, a0.2.2.2.2.2.2.2.2.2.1, r5.1.1, r5.1.2.1, r5.1.2.2.1, r5.1.2.2.2, [] ++ a0.2.2.2.2.2.2.2.2.2.2.2.2.2.2), ())
     else none
    else none
   else none
  else none := by kernel_rfl
/- spec.l01In -/
def c_sl01In : TC :=
 (.seq (.rg [o1 6 (.lit [.b] [.bool false])])
 (.seq (.join [⟨6, [.b], false⟩] 32704 none (.rg [o1 7 (.copy 0),
   o1 8 (.copy 1),
   o1 9 (.data (.bin .geq) [.t 7, .t 8]),
   o1 10 (.copy 9),
   o2 11 (.copy 0) 3 true,
   o2 12 (.copy 2) 3 true,
   o2 13 (.data (.bin .leq) [.t 11, .t 12]) 3 true,
   ⟨false, [], [], .pick 10 (.t 13) (.c (.bool false)), [14], (some 14), none⟩,
   o1 6 (.copy 14)]))
 .ret))
def s_sl01In : Sig := ⟨[.rd false [.d], .rd false [.d], .rd false [.d]], (.one false [.d])⟩
noncomputable def E_sl01In : TEnv := envOf []
noncomputable def f_sl01In (n : Nat) : Int × Int × Int → Option ((Bool) × Unit) := runFn n E_sl01In c_sl01In [[.i .i64], [.i .i64], [.i .i64]] [.b] [] [6] .no
noncomputable def g_sl01In := f_sl01In BIG
noncomputable def p_sl01In : TSp := ⟨s_sl01In, [[.i .i64], [.i .i64], [.i .i64]], [.b], [], Ou.j .no, g_sl01In⟩
theorem k_sl01In : chkW PG E_sl01In 98 s_sl01In (c_sl01In.ht 15) .no = some (c_sl01In.wc E_sl01In, [6]) := by kernel_rfl
theorem ok_sl01In : p_sl01In.Ok PG 98 := mkOk (env_nil PG) k_sl01In (by kernel_rfl)
theorem e_sl01In (n : Nat) (a0 : Int) (a1 : Int) (a2 : Int) : f_sl01In n (a0, a1, a2) =
  Option.bind (bif decide (a1 ≤ a0) then
    some (decide (a0 ≤ a2))
   else some false : Option (Bool)) fun x0 =>
  some (x0, ()) := by kernel_rfl
/- spec.EdgeOk -/
def c_sEdgeOk : TC :=
 (.seq (.rg [o1 3 (.a (.t 1)),
   o1 4 (.lit [.b] [.bool false])])
 (.seq (.join [⟨4, [.b], false⟩] 268435440 none (.rg [o1 5 (.copy 0),
   o3 6 98 [.t 5, .c [.i .i64] [.int .i64 (1)], .c [.i .i64] [.int .i64 (12)]],
   o1 7 (.copy 6),
   o2 8 (.idx .nil) 2 true,
   o2 9 (.load 3 [] 0 (.t 8) 1 false) 2 true,
   o2 10 (.copy 0) 2 true,
   o2 11 (.data (.bin .sub) [.t 10, .c (.int .i64 (1))]) 2 true,
   ⟨false, [], [], .call 1 98 [.t 9, .c [.i .i64] [.int .i64 (0)], .t 11] .no, [12], (some 12), some (2, true)⟩,
   ⟨false, [], [], .pick 7 (.t 12) (.c (.bool false)), [13], (some 13), none⟩,
   o1 14 (.copy 13),
   o2 15 (.idx .nil) 9 true,
   o2 16 (.load 3 [] 1 (.t 15) 1 false) 9 true,
   o2 17 (.copy 0) 9 true,
   o2 18 (.data (.bin .sub) [.t 17, .c (.int .i64 (1))]) 9 true,
   ⟨false, [], [], .call 1 98 [.t 16, .c [.i .i64] [.int .i64 (0)], .t 18] .no, [19], (some 19), some (9, true)⟩,
   ⟨false, [], [], .pick 14 (.t 19) (.c (.bool false)), [20], (some 20), none⟩,
   o1 21 (.copy 20),
   o2 22 (.idx .nil) 16 true,
   o2 23 (.load 3 [] 0 (.t 22) 1 false) 16 true,
   o2 24 (.idx .nil) 16 true,
   o2 25 (.load 3 [] 1 (.t 24) 1 false) 16 true,
   o2 26 (.data (.bin .lss) [.t 23, .t 25]) 16 true,
   ⟨false, [], [], .pick 21 (.t 26) (.c (.bool false)), [27], (some 27), none⟩,
   o1 4 (.copy 27)]))
 .ret))
def s_sEdgeOk : Sig := ⟨[.rd false [.d], .rd true [.d, .d]], (.one false [.d])⟩
noncomputable def E_sEdgeOk : TEnv := envOf [(98, p_sl01In)]
noncomputable def f_sEdgeOk (n : Nat) : Int × (Int × Int) → Option ((Bool) × Unit) := runFn n E_sEdgeOk c_sEdgeOk [[.i .i64], [.i .i64, .i .i64]] [.b] [] [4] .no
noncomputable def g_sEdgeOk := f_sEdgeOk BIG
noncomputable def p_sEdgeOk : TSp := ⟨s_sEdgeOk, [[.i .i64], [.i .i64, .i .i64]], [.b], [], Ou.j .no, g_sEdgeOk⟩
theorem k_sEdgeOk : chkW PG E_sEdgeOk 116 s_sEdgeOk (c_sEdgeOk.ht 28) .no = some (c_sEdgeOk.wc E_sEdgeOk, [4]) := by kernel_rfl
theorem ok_sEdgeOk : p_sEdgeOk.Ok PG 116 := mkOk (env_cons ok_sl01In (env_nil PG)) k_sEdgeOk (by kernel_rfl)
theorem e_sEdgeOk (n : Nat) (a0 : Int) (a1 : Int × Int) : f_sEdgeOk n (a0, a1) =
  Option.bind (Option.bind (g_sl01In (a0, (1 : Int), (12 : Int))) fun r0 =>
   bif r0.1 then
    Option.bind (g_sl01In (a1.1, (0 : Int), IntKind.wrap .i64 (a0 - (1 : Int)))) fun r1 =>
    bif r1.1 then
     Option.bind (g_sl01In (a1.2, (0 : Int), IntKind.wrap .i64 (a0 - (1 : Int)))) fun r2 =>
     bif r2.1 then
      some (decide (a1.1 < a1.2))
     else some false
    else some false
   else some false : Option (Bool)) fun x3 =>
  some (x3, ()) := by kernel_rfl
/- spec.l05Less -/
def c_sl05Less : TC :=
 (.seq (.rg [o1 2 (.a (.t 0)),
   o1 3 (.a (.t 1)),
   o1 4 (.lit [.b] [.bool false])])
 (.seq (.join [⟨4, [.b], false⟩] 16777200 none (.rg [o1 5 (.idx .nil),
   o1 6 (.load 2 [] 0 (.t 5) 1 false),
   o1 7 (.idx .nil),
   o1 8 (.load 3 [] 0 (.t 7) 1 false),
   o1 9 (.data (.bin .lss) [.t 6, .t 8]),
   o1 10 (.copy 9),
   o2 11 (.idx .nil) 5 false,
   o2 12 (.load 2 [] 0 (.t 11) 1 false) 5 false,
   o2 13 (.idx .nil) 5 false,
   o2 14 (.load 3 [] 0 (.t 13) 1 false) 5 false,
   o2 15 (.data (.bin .eql) [.t 12, .t 14]) 5 false,
   o2 16 (.copy 15) 5 false,
   o2 17 (.idx .nil) 11 true,
   o2 18 (.load 2 [] 1 (.t 17) 1 false) 11 true,
   o2 19 (.idx .nil) 11 true,
   o2 20 (.load 3 [] 1 (.t 19) 1 false) 11 true,
   o2 21 (.data (.bin .lss) [.t 18, .t 20]) 11 true,
   ⟨false, [], [], .pick 16 (.t 21) (.c (.bool false)), [22], (some 22), some (5, false)⟩,
   ⟨false, [], [], .pick 10 (.c (.bool true)) (.t 22), [23], (some 23), none⟩,
   o1 4 (.copy 23)]))
 .ret))
def s_sl05Less : Sig := ⟨[.rd true [.d, .d], .rd true [.d, .d]], (.one false [.d])⟩
noncomputable def E_sl05Less : TEnv := envOf []
noncomputable def f_sl05Less (n : Nat) : (Int × Int) × (Int × Int) → Option ((Bool) × Unit) := runFn n E_sl05Less c_sl05Less [[.i .i64, .i .i64], [.i .i64, .i .i64]] [.b] [] [4] .no
noncomputable def g_sl05Less := f_sl05Less BIG
noncomputable def p_sl05Less : TSp := ⟨s_sl05Less, [[.i .i64, .i .i64], [.i .i64, .i .i64]], [.b], [], Ou.j .no, g_sl05Less⟩
theorem k_sl05Less : chkW PG E_sl05Less 305 s_sl05Less (c_sl05Less.ht 24) .no = some (c_sl05Less.wc E_sl05Less, [4]) := by kernel_rfl
theorem ok_sl05Less : p_sl05Less.Ok PG 305 := mkOk (env_nil PG) k_sl05Less (by kernel_rfl)
theorem e_sl05Less (n : Nat) (a0 : Int × Int) (a1 : Int × Int) : f_sl05Less n (a0, a1) =
  Option.bind (bif decide (a0.1 < a1.1) then
    some true
   else bif decide (a0.1 = a1.1) then
    some (decide (a0.2 < a1.2))
   else some false : Option (Bool)) fun x0 =>
  some (x0, ()) := by kernel_rfl
/- spec.l05Edges -/
def c_sl05Edges : TC :=
 (.seq (.rg [o1 4 (.lit [.b] [.bool false])])
 (.seq (.join [] 68719476720 (some [⟨4, [.b], false⟩]) (.seq (.rg [o1 5 (.lit [.i .i64] [.int .i64 (0)])])
 (.block 0 (.loop [⟨5, [.i .i64], false⟩] 68719476720
  (.seq (.seq (.rg [o1 6 (.copy 5),
    o1 7 (.copy 1),
    o1 8 (.len 7),
    o1 9 (.data (.bin .lss) [.t 6, .t 8])])
  (.cond (.t 9)
   .skip
   (.exit 0)))
  (.seq (.join [] 68719472656 (some [⟨4, [.b], false⟩]) (.block 1 (.seq (.join [⟨35, [.b], false⟩] 68719472640 none (.rg [o1 12 (.copy 0),
    o1 13 (.copy 1),
    o1 14 (.copy 5),
    o1 15 (.index 13 (.t 14)),
    o1 16 (.load 13 [(0, 2)] 0 (.t 15) 2 false),
    o3 17 116 [.t 12, .t 16],
    o1 18 (.data .not [.t 17]),
    o1 19 (.copy 18),
    o2 20 (.copy 5) 7 false,
    o2 21 (.data (.bin .gtr) [.t 20, .c (.int .i64 (0))]) 7 false,
    o2 22 (.copy 21) 7 false,
    o2 23 (.copy 1) 10 true,
    o2 24 (.copy 5) 10 true,
    o2 25 (.data (.bin .sub) [.t 24, .c (.int .i64 (1))]) 10 true,
    o2 26 (.index 23 (.t 25)) 10 true,
    o2 27 (.load 23 [(0, 2)] 0 (.t 26) 2 false) 10 true,
    o2 28 (.copy 1) 10 true,
    o2 29 (.copy 5) 10 true,
    o2 30 (.index 28 (.t 29)) 10 true,
    o2 31 (.load 28 [(0, 2)] 0 (.t 30) 2 false) 10 true,
    ⟨false, [], [], .call 1 305 [.t 27, .t 31] .no, [32], (some 32), some (10, true)⟩,
    o2 33 (.data .not [.t 32]) 10 true,
    ⟨false, [], [], .pick 22 (.t 33) (.c (.bool false)), [34], (some 34), some (7, false)⟩,
    ⟨false, [], [], .pick 19 (.c (.bool true)) (.t 34), [35], (some 35), none⟩]))
  (.cond (.t 35)
   (.seq (.rg [o1 4 (.lit [.b] [.bool false])])
   .ret)
   .skip))))
  (.rg [o1 10 (.copy 5),
    o1 11 (.data (.bin .add) [.t 10, .c (.int .i64 (1))]),
    o1 5 (.copy 11)])))))))
 (.seq (.rg [o1 36 (.copy 1),
   o1 37 (.len 36),
   o1 38 (.data (.bin .leq) [.t 37, .c (.int .i64 (66))]),
   o1 4 (.copy 38)])
 .ret)))
def s_sl05Edges : Sig := ⟨[.rd false [.d], .rd false [.sl (.own none) [.d, .d]]], (.one false [.d])⟩
noncomputable def E_sl05Edges : TEnv := envOf [(116, p_sEdgeOk), (305, p_sl05Less)]
noncomputable def f_sl05Edges (n : Nat) : Int × (List (Int × Int)) → Option ((Bool) × Unit) := runFn n E_sl05Edges c_sl05Edges [[.i .i64], [.sl [.i .i64, .i .i64]]] [.b] [] [4] .no
noncomputable def g_sl05Edges := f_sl05Edges BIG
noncomputable def p_sl05Edges : TSp := ⟨s_sl05Edges, [[.i .i64], [.sl [.i .i64, .i .i64]]], [.b], [], Ou.j .no, g_sl05Edges⟩
theorem k_sl05Edges : chkW PG E_sl05Edges 233 s_sl05Edges (c_sl05Edges.ht 39) .no = some (c_sl05Edges.wc E_sl05Edges, [4]) := by kernel_rfl
theorem ok_sl05Edges : p_sl05Edges.Ok PG 233 := mkOk (env_cons ok_sEdgeOk (env_cons ok_sl05Less (env_nil PG))) k_sl05Edges (by kernel_rfl)
theorem e_sl05Edges (n : Nat) (a0 : Int) (a1 : List (Int × Int)) : f_sl05Edges n (a0, a1) =
  Option.bind (loopT n (X := Int) (B := (Unit) ⊕ (Bool)) (fun self1 x0 =>
    bif decide (x0 < (a1.length : Int)) then
     Option.bind (Option.bind (bnd a1.length x0 fun n2 =>
       Option.bind a1[n2]? fun y3 =>
       Option.bind (g_sEdgeOk (a0, y3)) fun r4 =>
       bif !r4.1 then
        some true
       else bif decide ((0 : Int) < x0) then
        bnd a1.length (IntKind.wrap .i64 (x0 - (1 : Int))) fun n5 =>
        Option.bind a1[n5]? fun y6 =>
        bnd a1.length x0 fun n7 =>
        Option.bind a1[n7]? fun y8 =>
        Option.bind (g_sl05Less (y6, y8)) fun r9 =>
        some !r9.1
       else some false : Option (Bool)) fun x10 =>
      bif x10 then
       some (Sum.inr false)
      else some (Sum.inl ()) : Option ((Unit) ⊕ (Bool))) fun y => match y with
     | .inl x11 =>
      self1 (IntKind.wrap .i64 (x0 + (1 : Int)))
     | .inr x11 =>
      some (Sum.inr x11)
    else some (Sum.inl ())) (0 : Int) : Option ((Unit) ⊕ (Bool))) fun y => match y with
  | .inl x12 =>
   some (decide ((a1.length : Int) ≤ (66 : Int)), ())
  | .inr x12 =>
   some (x12, ()) := by kernel_rfl
/- spec.l09Labels -/
def c_sl09Labels : TC :=
 (.seq (.rg [o1 4 (.lit [.b] [.bool false])])
 (.seq (.seq (.rg [o1 6 (.copy 1),
   o1 7 (.len 6),
   o1 8 (.copy 0),
   o1 9 (.data (.bin .neq) [.t 7, .t 8])])
 (.cond (.t 9)
  (.seq (.rg [o1 4 (.lit [.b] [.bool false])])
  .ret)
  .skip))
 (.seq (.join [] 68719475760 (some [⟨4, [.b], false⟩]) (.seq (.rg [o1 5 (.lit [.i .i64] [.int .i64 (0)])])
 (.block 0 (.loop [⟨5, [.i .i64], false⟩] 68719475760
  (.seq (.seq (.rg [o1 10 (.copy 5),
    o1 11 (.copy 0),
    o1 12 (.data (.bin .lss) [.t 10, .t 11])])
  (.cond (.t 12)
   .skip
   (.exit 0)))
  (.seq (.join [] 68719443984 (some [⟨4, [.b], false⟩]) (.block 1 (.seq (.join [⟨35, [.b], false⟩] 68719443968 none (.rg [o1 15 (.copy 1),
    o1 16 (.copy 5),
    o1 17 (.index 15 (.t 16)),
    o1 18 (.load 15 [(0, 1)] 0 (.t 17) 1 false),
    o1 19 (.copy 5),
    o3 20 98 [.t 18, .c [.i .i64] [.int .i64 (0)], .t 19],
    o1 21 (.data .not [.t 20]),
    o1 22 (.copy 21),
    o2 23 (.copy 1) 7 false,
    o2 24 (.copy 1) 7 false,
    o2 25 (.copy 5) 7 false,
    o2 26 (.index 24 (.t 25)) 7 false,
    o2 27 (.load 24 [(0, 1)] 0 (.t 26) 1 false) 7 false,
    o2 28 (.index 23 (.t 27)) 7 false,
    o2 29 (.load 23 [(0, 1)] 0 (.t 28) 1 false) 7 false,
    o2 30 (.copy 1) 7 false,
    o2 31 (.copy 5) 7 false,
    o2 32 (.index 30 (.t 31)) 7 false,
    o2 33 (.load 30 [(0, 1)] 0 (.t 32) 1 false) 7 false,
    o2 34 (.data (.bin .neq) [.t 29, .t 33]) 7 false,
    ⟨false, [], [], .pick 22 (.c (.bool true)) (.t 34), [35], (some 35), none⟩]))
  (.cond (.t 35)
   (.seq (.rg [o1 4 (.lit [.b] [.bool false])])
   .ret)
   .skip))))
  (.rg [o1 13 (.copy 5),
    o1 14 (.data (.bin .add) [.t 13, .c (.int .i64 (1))]),
    o1 5 (.copy 14)])))))))
 (.seq (.rg [o1 4 (.lit [.b] [.bool true])])
 .ret))))
def s_sl09Labels : Sig := ⟨[.rd false [.d], .rd false [.sl (.own none) [.d]]], (.one false [.d])⟩
noncomputable def E_sl09Labels : TEnv := envOf [(98, p_sl01In)]
noncomputable def f_sl09Labels (n : Nat) : Int × List (Int) → Option ((Bool) × Unit) := runFn n E_sl09Labels c_sl09Labels [[.i .i64], [.sl [.i .i64]]] [.b] [] [4] .no
noncomputable def g_sl09Labels := f_sl09Labels BIG
noncomputable def p_sl09Labels : TSp := ⟨s_sl09Labels, [[.i .i64], [.sl [.i .i64]]], [.b], [], Ou.j .no, g_sl09Labels⟩
theorem k_sl09Labels : chkW PG E_sl09Labels 248 s_sl09Labels (c_sl09Labels.ht 36) .no = some (c_sl09Labels.wc E_sl09Labels, [4]) := by kernel_rfl
theorem ok_sl09Labels : p_sl09Labels.Ok PG 248 := mkOk (env_cons ok_sl01In (env_nil PG)) k_sl09Labels (by kernel_rfl)
theorem e_sl09Labels (n : Nat) (a0 : Int) (a1 : List (Int)) : f_sl09Labels n (a0, a1) =
  bif !decide ((a1.length : Int) = a0) then
   some (false, ())
  else Option.bind (loopT n (X := Int) (B := (Unit) ⊕ (Bool)) (fun self1 x0 =>
    bif decide (x0 < a0) then
     Option.bind (Option.bind (bnd a1.length x0 fun n2 =>
       Option.bind a1[n2]? fun y3 =>
       Option.bind (g_sl01In (y3, (0 : Int), x0)) fun r4 =>
       bif !r4.1 then
        some true
       else bnd a1.length x0 fun n5 =>
       Option.bind a1[n5]? fun y6 =>
       bnd a1.length y6 fun n7 =>
       Option.bind a1[n7]? fun y8 =>
       bnd a1.length x0 fun n9 =>
       Option.bind a1[n9]? fun y10 =>
       some (!decide (y8 = y10)) : Option (Bool)) fun x11 =>
      bif x11 then
       some (Sum.inr false)
      else some (Sum.inl ()) : Option ((Unit) ⊕ (Bool))) fun y => match y with
     | .inl x12 =>
      self1 (IntKind.wrap .i64 (x0 + (1 : Int)))
     | .inr x12 =>
      some (Sum.inr x12)
    else some (Sum.inl ())) (0 : Int) : Option ((Unit) ⊕ (Bool))) fun y => match y with
  | .inl x13 =>
   some (true, ())
  | .inr x13 =>
   some (x13, ()) := by kernel_rfl
/- spec.l12Said -/
def c_sl12Said : TC :=
 (.seq (.rg [o1 2 (.a (.t 0)),
   o1 4 (.lit [.i .i64] [.int .i64 (0)])])
 (.seq (.join [] 4194288 (some [⟨4, [.i .i64], false⟩]) (.seq (.rg [o1 5 (.lit [.i .i64] [.int .i64 (0)])])
 (.block 0 (.loop [⟨5, [.i .i64], false⟩] 4194288
  (.seq (.seq (.rg [o1 6 (.copy 5),
    o1 7 (.idx .nil),
    o1 8 (.load 2 [] 14 (.t 7) 1 false),
    o1 9 (.len 8),
    o1 10 (.data (.bin .lss) [.t 6, .t 9])])
  (.cond (.t 10)
   .skip
   (.exit 0)))
  (.seq (.block 1 (.seq (.rg [o1 13 (.idx .nil),
    o1 14 (.load 2 [] 14 (.t 13) 1 false),
    o1 15 (.copy 5),
    o1 16 (.index 14 (.t 15)),
    o1 17 (.idx (.t 16)),
    o1 18 (.load 14 [(0, 6)] 0 (.t 17) 1 false),
    o1 19 (.copy 1),
    o1 20 (.data (.bin .eql) [.t 18, .t 19])])
  (.cond (.t 20)
   (.seq (.rg [o1 21 (.copy 5),
     o1 4 (.copy 21)])
   .ret)
   .skip)))
  (.rg [o1 11 (.copy 5),
    o1 12 (.data (.bin .add) [.t 11, .c (.int .i64 (1))]),
    o1 5 (.copy 12)])))))))
 (.seq (.rg [o1 4 (.lit [.i .i64] [.int .i64 (-1)])])
 .ret)))
def s_sl12Said : Sig := ⟨[.rd true [.d, .sl (.own none) [.d], .sl (.own none) [.d, .d], .sl (.own none) [.sl (.own none) [.d]], .sl (.own none) [.d], .d, .d, .d, .d, .d, .d, .d, .sl (.own none) [.d, .d], .d, .sl (.own none) [.d, .d, .d, .d, .d, .d]], .rd false [.d]], (.one false [.d])⟩
noncomputable def E_sl12Said : TEnv := envOf []
noncomputable def f_sl12Said (n : Nat) : (Int × List (Int) × List (Int × Int) × List (List (Int)) × List (Int) × Int × Int × Int × Int × Int × Int × Int × List (Int × Int) × Int × List (Int × Int × Int × Int × Int × Int)) × Int → Option ((Int) × Unit) := runFn n E_sl12Said c_sl12Said [[.i .i64, .sl [.i .i64], .sl [.i .i64, .i .i64], .sl [.sl [.i .i64]], .sl [.i .i64], .i .i64, .i .i64, .i .i64, .i .i64, .i .i64, .i .i64, .i .i64, .sl [.i .i64, .i .i64], .i .i64, .sl [.i .i64, .i .i64, .i .i64, .i .i64, .i .i64, .i .i64]], [.i .i64]] [.i .i64] [] [4] .no
noncomputable def g_sl12Said := f_sl12Said BIG
noncomputable def p_sl12Said : TSp := ⟨s_sl12Said, [[.i .i64, .sl [.i .i64], .sl [.i .i64, .i .i64], .sl [.sl [.i .i64]], .sl [.i .i64], .i .i64, .i .i64, .i .i64, .i .i64, .i .i64, .i .i64, .i .i64, .sl [.i .i64, .i .i64], .i .i64, .sl [.i .i64, .i .i64, .i .i64, .i .i64, .i .i64, .i .i64]], [.i .i64]], [.i .i64], [], Ou.j .no, g_sl12Said⟩
theorem k_sl12Said : chkW PG E_sl12Said 191 s_sl12Said (c_sl12Said.ht 22) .no = some (c_sl12Said.wc E_sl12Said, [4]) := by kernel_rfl
theorem ok_sl12Said : p_sl12Said.Ok PG 191 := mkOk (env_nil PG) k_sl12Said (by kernel_rfl)
theorem e_sl12Said (n : Nat) (a0 : Int × List (Int) × List (Int × Int) × List ((List (Int))) × List (Int) × Int × Int × Int × Int × Int × Int × Int × List (Int × Int) × Int × List (Int × Int × Int × Int × Int × Int)) (a1 : Int) : f_sl12Said n (a0, a1) =
  Option.bind (loopT n (X := Int) (B := (Unit) ⊕ (Int)) (fun self1 x0 =>
    bif decide (x0 < (a0.2.2.2.2.2.2.2.2.2.2.2.2.2.2.length : Int)) then
     bnd a0.2.2.2.2.2.2.2.2.2.2.2.2.2.2.length x0 fun n2 =>
     Option.bind a0.2.2.2.2.2.2.2.2.2.2.2.2.2.2[n2]? fun y3 =>
     bif decide (y3.1 = a1) then
      some (Sum.inr x0)
     else self1 (IntKind.wrap .i64 (x0 + (1 : Int)))
    else some (Sum.inl ())) (0 : Int) : Option ((Unit) ⊕ (Int))) fun y => match y with
  | .inl x4 =>
   some ((-1 : Int), ())
  | .inr x4 =>
   some (x4, ()) := by kernel_rfl
/- spec.l05SameEdges -/
def c_sl05SameEdges : TC :=
 (.seq (.rg [o1 4 (.lit [.b] [.bool false])])
 (.seq (.seq (.rg [o1 6 (.copy 0),
   o1 7 (.len 6),
   o1 8 (.copy 1),
   o1 9 (.len 8),
   o1 10 (.data (.bin .neq) [.t 7, .t 9])])
 (.cond (.t 10)
  (.seq (.rg [o1 4 (.lit [.b] [.bool false])])
  .ret)
  .skip))
 (.seq (.join [] 67106864 (some [⟨4, [.b], false⟩]) (.seq (.rg [o1 5 (.lit [.i .i64] [.int .i64 (0)])])
 (.block 0 (.loop [⟨5, [.i .i64], false⟩] 67106864
  (.seq (.seq (.rg [o1 11 (.copy 5),
    o1 12 (.copy 0),
    o1 13 (.len 12),
    o1 14 (.data (.bin .lss) [.t 11, .t 13])])
  (.cond (.t 14)
   .skip
   (.exit 0)))
  (.seq (.block 1 (.seq (.rg [o1 17 (.copy 0),
    o1 18 (.copy 5),
    o1 19 (.index 17 (.t 18)),
    o1 20 (.load 17 [(0, 2)] 0 (.t 19) 2 false),
    o1 21 (.copy 1),
    o1 22 (.copy 5),
    o1 23 (.index 21 (.t 22)),
    o1 24 (.load 21 [(0, 2)] 0 (.t 23) 2 false),
    o1 25 (.eqA [.i, .i] (.t 20) (.t 24) true)])
  (.cond (.t 25)
   (.seq (.rg [o1 4 (.lit [.b] [.bool false])])
   .ret)
   .skip)))
  (.rg [o1 15 (.copy 5),
    o1 16 (.data (.bin .add) [.t 15, .c (.int .i64 (1))]),
    o1 5 (.copy 16)])))))))
 (.seq (.rg [o1 4 (.lit [.b] [.bool true])])
 .ret))))
def s_sl05SameEdges : Sig := ⟨[.rd false [.sl (.own none) [.d, .d]], .rd false [.sl (.own none) [.d, .d]]], (.one false [.d])⟩
noncomputable def E_sl05SameEdges : TEnv := envOf []
noncomputable def f_sl05SameEdges (n : Nat) : (List (Int × Int)) × (List (Int × Int)) → Option ((Bool) × Unit) := runFn n E_sl05SameEdges c_sl05SameEdges [[.sl [.i .i64, .i .i64]], [.sl [.i .i64, .i .i64]]] [.b] [] [4] .no
noncomputable def g_sl05SameEdges := f_sl05SameEdges BIG
noncomputable def p_sl05SameEdges : TSp := ⟨s_sl05SameEdges, [[.sl [.i .i64, .i .i64]], [.sl [.i .i64, .i .i64]]], [.b], [], Ou.j .no, g_sl05SameEdges⟩
theorem k_sl05SameEdges : chkW PG E_sl05SameEdges 310 s_sl05SameEdges (c_sl05SameEdges.ht 26) .no = some (c_sl05SameEdges.wc E_sl05SameEdges, [4]) := by kernel_rfl
theorem ok_sl05SameEdges : p_sl05SameEdges.Ok PG 310 := mkOk (env_nil PG) k_sl05SameEdges (by kernel_rfl)
theorem e_sl05SameEdges (n : Nat) (a0 : List (Int × Int)) (a1 : List (Int × Int)) : f_sl05SameEdges n (a0, a1) =
  bif !decide ((a0.length : Int) = (a1.length : Int)) then
   some (false, ())
  else Option.bind (loopT n (X := Int) (B := (Unit) ⊕ (Bool)) (fun self1 x0 =>
    bif decide (x0 < (a0.length : Int)) then
     bnd a0.length x0 fun n2 =>
     Option.bind a0[n2]? fun y3 =>
     bnd a1.length x0 fun n4 =>
     Option.bind a1[n4]? fun y5 =>
     bif !(decide (y3.1 = y5.1) && (decide (y3.2 = y5.2) && true)) then
      some (Sum.inr false)
     else self1 (IntKind.wrap .i64 (x0 + (1 : Int)))
    else some (Sum.inl ())) (0 : Int) : Option ((Unit) ⊕ (Bool))) fun y => match y with
  | .inl x6 =>
   some (true, ())
  | .inr x6 =>
   some (x6, ()) := by kernel_rfl
/- spec.l09SameOrder -/
def c_sl09SameOrder : TC :=
 (.seq (.rg [o1 2 (.a (.t 0)),
   o1 3 (.a (.t 1)),
   o1 4 (.lit [.b] [.bool false])])
 (.seq (.join [⟨4, [.b], false⟩] 2147483632 none (.rg [o1 5 (.idx .nil),
   o1 6 (.load 2 [] 0 (.t 5) 1 false),
   o1 7 (.idx .nil),
   o1 8 (.load 3 [] 0 (.t 7) 1 false),
   o1 9 (.data (.bin .eql) [.t 6, .t 8]),
   o1 10 (.copy 9),
   o2 11 (.idx .nil) 5 true,
   o2 12 (.load 2 [] 1 (.t 11) 1 false) 5 true,
   o2 13 (.idx .nil) 5 true,
   o2 14 (.load 3 [] 1 (.t 13) 1 false) 5 true,
   o2 15 (.data (.bin .eql) [.t 12, .t 14]) 5 true,
   ⟨false, [], [], .pick 10 (.t 15) (.c (.bool false)), [16], (some 16), none⟩,
   o1 17 (.copy 16),
   o2 18 (.idx .nil) 12 true,
   o2 19 (.load 2 [] 3 (.t 18) 1 false) 12 true,
   o2 20 (.idx .nil) 12 true,
   o2 21 (.load 3 [] 3 (.t 20) 1 false) 12 true,
   o2 22 (.data (.bin .eql) [.t 19, .t 21]) 12 true,
   ⟨false, [], [], .pick 17 (.t 22) (.c (.bool false)), [23], (some 23), none⟩,
   o1 24 (.copy 23),
   o2 25 (.idx .nil) 19 true,
   o2 26 (.load 2 [] 2 (.t 25) 1 false) 19 true,
   o2 27 (.idx .nil) 19 true,
   o2 28 (.load 3 [] 2 (.t 27) 1 false) 19 true,
   ⟨false, [], [], .call 1 310 [.t 26, .t 28] .no, [29], (some 29), some (19, true)⟩,
   ⟨false, [], [], .pick 24 (.t 29) (.c (.bool false)), [30], (some 30), none⟩,
   o1 4 (.copy 30)]))
 .ret))
def s_sl09SameOrder : Sig := ⟨[.rd true [.d, .d, .sl (.own none) [.d, .d], .d], .rd true [.d, .d, .sl (.own none) [.d, .d], .d]], (.one false [.d])⟩
noncomputable def E_sl09SameOrder : TEnv := envOf [(310, p_sl05SameEdges)]
noncomputable def f_sl09SameOrder (n : Nat) : (Int × Int × List (Int × Int) × Int) × (Int × Int × List (Int × Int) × Int) → Option ((Bool) × Unit) := runFn n E_sl09SameOrder c_sl09SameOrder [[.i .i64, .i .i64, .sl [.i .i64, .i .i64], .i .i64], [.i .i64, .i .i64, .sl [.i .i64, .i .i64], .i .i64]] [.b] [] [4] .no
noncomputable def g_sl09SameOrder := f_sl09SameOrder BIG
noncomputable def p_sl09SameOrder : TSp := ⟨s_sl09SameOrder, [[.i .i64, .i .i64, .sl [.i .i64, .i .i64], .i .i64], [.i .i64, .i .i64, .sl [.i .i64, .i .i64], .i .i64]], [.b], [], Ou.j .no, g_sl09SameOrder⟩
theorem k_sl09SameOrder : chkW PG E_sl09SameOrder 336 s_sl09SameOrder (c_sl09SameOrder.ht 31) .no = some (c_sl09SameOrder.wc E_sl09SameOrder, [4]) := by kernel_rfl
theorem ok_sl09SameOrder : p_sl09SameOrder.Ok PG 336 := mkOk (env_cons ok_sl05SameEdges (env_nil PG)) k_sl09SameOrder (by kernel_rfl)
theorem e_sl09SameOrder (n : Nat) (a0 : Int × Int × List (Int × Int) × Int) (a1 : Int × Int × List (Int × Int) × Int) : f_sl09SameOrder n (a0, a1) =
  Option.bind (bif decide (a0.1 = a1.1) then
    bif decide (a0.2.1 = a1.2.1) then
     bif decide (a0.2.2.2 = a1.2.2.2) then
      Option.bind (g_sl05SameEdges (a0.2.2.1, a1.2.2.1)) fun r0 =>
      some r0.1
     else some false
    else some false
   else some false : Option (Bool)) fun x1 =>
  some (x1, ()) := by kernel_rfl
/- spec.l12BlankTask -/
def c_sl12BlankTask : TC :=
 (.seq (.rg [o1 1 (.a (.t 0)),
   o1 2 (.lit [.b] [.bool false])])
 (.seq (.join [⟨2, [.b], false⟩] 262140 none (.rg [o1 3 (.idx .nil),
   o1 4 (.load 1 [] 0 (.t 3) 4 false),
   o1 5 (.build [.i .i64, .i .i64, .i .i64, .i .i64] []),
   o1 6 (.eqA [.i, .i, .i, .i] (.t 4) (.t 5) false),
   o1 7 (.copy 6),
   o2 8 (.idx .nil) 4 true,
   o2 9 (.load 1 [] 4 (.t 8) 1 false) 4 true,
   o2 10 (.data (.bin .eql) [.t 9, .c (.int .i64 (0))]) 4 true,
   ⟨false, [], [], .pick 7 (.t 10) (.c (.bool false)), [11], (some 11), none⟩,
   o1 12 (.copy 11),
   o2 13 (.idx .nil) 9 true,
   o2 14 (.load 1 [] 5 (.t 13) 4 false) 9 true,
   o2 15 (.build [.i .i64, .i .i64, .sl [.i .i64, .i .i64], .i .i64] []) 9 true,
   ⟨false, [], [], .call 1 336 [.t 14, .t 15] .no, [16], (some 16), some (9, true)⟩,
   ⟨false, [], [], .pick 12 (.t 16) (.c (.bool false)), [17], (some 17), none⟩,
   o1 2 (.copy 17)]))
 .ret))
def s_sl12BlankTask : Sig := ⟨[.rd true [.d, .d, .d, .d, .d, .d, .d, .sl (.own none) [.d, .d], .d]], (.one false [.d])⟩
noncomputable def E_sl12BlankTask : TEnv := envOf [(336, p_sl09SameOrder)]
noncomputable def f_sl12BlankTask (n : Nat) : (Int × Int × Int × Int × Int × Int × Int × List (Int × Int) × Int) → Option ((Bool) × Unit) := runFn n E_sl12BlankTask c_sl12BlankTask [[.i .i64, .i .i64, .i .i64, .i .i64, .i .i64, .i .i64, .i .i64, .sl [.i .i64, .i .i64], .i .i64]] [.b] [] [2] .no
noncomputable def g_sl12BlankTask := f_sl12BlankTask BIG
noncomputable def p_sl12BlankTask : TSp := ⟨s_sl12BlankTask, [[.i .i64, .i .i64, .i .i64, .i .i64, .i .i64, .i .i64, .i .i64, .sl [.i .i64, .i .i64], .i .i64]], [.b], [], Ou.j .no, g_sl12BlankTask⟩
theorem k_sl12BlankTask : chkW PG E_sl12BlankTask 330 s_sl12BlankTask (c_sl12BlankTask.ht 18) .no = some (c_sl12BlankTask.wc E_sl12BlankTask, [2]) := by kernel_rfl
theorem ok_sl12BlankTask : p_sl12BlankTask.Ok PG 330 := mkOk (env_cons ok_sl09SameOrder (env_nil PG)) k_sl12BlankTask (by kernel_rfl)
theorem e_sl12BlankTask (n : Nat) (a0 : Int × Int × Int × Int × Int × Int × Int × List (Int × Int) × Int) : f_sl12BlankTask n a0 =
  Option.bind (bif (decide (a0.1 = (0 : Int)) && (decide (a0.2.1 = (0 : Int)) && (decide (a0.2.2.1 = (0 : Int)) && (decide (a0.2.2.2.1 = (0 : Int)) && true)))) then
    bif decide (a0.2.2.2.2.1 = (0 : Int)) then
     Option.bind (g_sl09SameOrder (a0.2.2.2.2.2, ((0 : Int), (0 : Int), [], (0 : Int)))) fun r0 =>
     some r0.1
    else some false
   else some false : Option (Bool)) fun x1 =>
  some (x1, ()) := by kernel_rfl
/- spec.OrderOk -/
def c_sOrderOk : TC :=
 (.seq (.rg [o1 3 (.a (.t 1)),
   o1 4 (.lit [.b] [.bool false])])
 (.seq (.seq (.join [⟨26, [.b], false⟩] 134217696 none (.rg [o1 5 (.copy 0),
   o3 6 98 [.t 5, .c [.i .i64] [.int .i64 (1)], .c [.i .i64] [.int .i64 (12)]],
   o1 7 (.data .not [.t 6]),
   o1 8 (.copy 7),
   o2 9 (.idx .nil) 3 false,
   o2 10 (.load 3 [] 0 (.t 9) 1 false) 3 false,
   ⟨false, [], [], .call 1 98 [.t 10, .c [.i .i64] [.int .i64 (1)], .c [.i .i64] [.int .i64 (100000)]] .no, [11], (some 11), some (3, false)⟩,
   o2 12 (.data .not [.t 11]) 3 false,
   ⟨false, [], [], .pick 8 (.c (.bool true)) (.t 12), [13], (some 13), none⟩,
   o1 14 (.copy 13),
   o2 15 (.idx .nil) 9 false,
   o2 16 (.load 3 [] 1 (.t 15) 1 false) 9 false,
   ⟨false, [], [], .call 1 98 [.t 16, .c [.i .i64] [.int .i64 (1)], .c [.i .i64] [.int .i64 (4)]] .no, [17], (some 17), some (9, false)⟩,
   o2 18 (.data .not [.t 17]) 9 false,
   ⟨false, [], [], .pick 14 (.c (.bool true)) (.t 18), [19], (some 19), none⟩,
   o1 20 (.copy 19),
   o2 21 (.copy 0) 15 false,
   o2 22 (.idx .nil) 15 false,
   o2 23 (.load 3 [] 2 (.t 22) 1 false) 15 false,
   ⟨false, [], [], .call 1 233 [.t 21, .t 23] .no, [24], (some 24), some (15, false)⟩,
   o2 25 (.data .not [.t 24]) 15 false,
   ⟨false, [], [], .pick 20 (.c (.bool true)) (.t 25), [26], (some 26), none⟩]))
 (.cond (.t 26)
  (.seq (.rg [o1 4 (.lit [.b] [.bool false])])
  .ret)
  .skip))
 (.seq (.seq (.rg [o1 27 (.idx .nil),
   o1 28 (.load 3 [] 1 (.t 27) 1 false)])
 (.block 0 (.seq (.rg [o1 30 (.data (.bin .eql) [.t 28, .c (.int .i64 (3))]),
   o1 29 (.copy 30)])
 (.cond (.t 29)
  (.seq (.join [⟨4, [.b], false⟩] 4395899027472 none (.rg [o1 31 (.idx .nil),
    o1 32 (.load 3 [] 2 (.t 31) 1 false),
    o1 33 (.len 32),
    o1 34 (.data (.bin .eql) [.t 33, .c (.int .i64 (0))]),
    o1 35 (.copy 34),
    o2 36 (.idx .nil) 4 true,
    o2 37 (.load 3 [] 3 (.t 36) 1 false) 4 true,
    o2 38 (.copy 0) 4 true,
    o2 39 (.data (.bin .sub) [.t 38, .c (.int .i64 (1))]) 4 true,
    ⟨false, [], [], .call 1 98 [.t 37, .c [.i .i64] [.int .i64 (0)], .t 39] .no, [40], (some 40), some (4, true)⟩,
    ⟨false, [], [], .pick 35 (.t 40) (.c (.bool false)), [41], (some 41), none⟩,
    o1 4 (.copy 41)]))
  .ret)
  (.seq (.rg [o1 43 (.data (.bin .eql) [.t 28, .c (.int .i64 (4))]),
    o1 42 (.copy 43)])
  (.cond (.t 42)
   (.seq (.join [⟨4, [.b], false⟩] 8989607068696592 none (.rg [o1 44 (.idx .nil),
     o1 45 (.load 3 [] 2 (.t 44) 1 false),
     o1 46 (.len 45),
     o1 47 (.data (.bin .gtr) [.t 46, .c (.int .i64 (0))]),
     o1 48 (.copy 47),
     o2 49 (.idx .nil) 4 true,
     o2 50 (.load 3 [] 3 (.t 49) 1 false) 4 true,
     o2 51 (.data (.bin .eql) [.t 50, .c (.int .i64 (0))]) 4 true,
     ⟨false, [], [], .pick 48 (.t 51) (.c (.bool false)), [52], (some 52), none⟩,
     o1 4 (.copy 52)]))
   .ret)
   .skip))))))
 (.seq (.join [⟨4, [.b], false⟩] 4602678819172646928 none (.rg [o1 53 (.idx .nil),
   o1 54 (.load 3 [] 2 (.t 53) 1 false),
   o1 55 (.len 54),
   o1 56 (.data (.bin .eql) [.t 55, .c (.int .i64 (1))]),
   o1 57 (.copy 56),
   o2 58 (.idx .nil) 4 true,
   o2 59 (.load 3 [] 3 (.t 58) 1 false) 4 true,
   o2 60 (.data (.bin .eql) [.t 59, .c (.int .i64 (0))]) 4 true,
   ⟨false, [], [], .pick 57 (.t 60) (.c (.bool false)), [61], (some 61), none⟩,
   o1 4 (.copy 61)]))
 .ret))))
def s_sOrderOk : Sig := ⟨[.rd false [.d], .rd true [.d, .d, .sl (.own none) [.d, .d], .d]], (.one false [.d])⟩
noncomputable def E_sOrderOk : TEnv := envOf [(98, p_sl01In), (233, p_sl05Edges)]
noncomputable def f_sOrderOk (n : Nat) : Int × (Int × Int × List (Int × Int) × Int) → Option ((Bool) × Unit) := runFn n E_sOrderOk c_sOrderOk [[.i .i64], [.i .i64, .i .i64, .sl [.i .i64, .i .i64], .i .i64]] [.b] [] [4] .no
noncomputable def g_sOrderOk := f_sOrderOk BIG
noncomputable def p_sOrderOk : TSp := ⟨s_sOrderOk, [[.i .i64], [.i .i64, .i .i64, .sl [.i .i64, .i .i64], .i .i64]], [.b], [], Ou.j .no, g_sOrderOk⟩
theorem k_sOrderOk : chkW PG E_sOrderOk 331 s_sOrderOk (c_sOrderOk.ht 62) .no = some (c_sOrderOk.wc E_sOrderOk, [4]) := by kernel_rfl
theorem ok_sOrderOk : p_sOrderOk.Ok PG 331 := mkOk (env_cons ok_sl01In (env_cons ok_sl05Edges (env_nil PG))) k_sOrderOk (by kernel_rfl)
theorem e_sOrderOk (n : Nat) (a0 : Int) (a1 : Int × Int × List (Int × Int) × Int) : f_sOrderOk n (a0, a1) =
  Option.bind (Option.bind (g_sl01In (a0, (1 : Int), (12 : Int))) fun r0 =>
   bif !r0.1 then
    some true
   else Option.bind (g_sl01In (a1.1, (1 : Int), (100000 : Int))) fun r1 =>
   bif !r1.1 then
    some true
   else Option.bind (g_sl01In (a1.2.1, (1 : Int), (4 : Int))) fun r2 =>
   bif !r2.1 then
    some true
   else Option.bind (g_sl05Edges (a0, a1.2.2.1)) fun r3 =>
   some !r3.1 : Option (Bool)) fun x4 =>
  bif x4 then
   some (false, ())
  else bif decide (a1.2.1 = (3 : Int)) then
   Option.bind (bif decide ((a1.2.2.1.length : Int) = (0 : Int)) then
     Option.bind (g_sl01In (a1.2.2.2, (0 : Int), IntKind.wrap .i64 (a0 - (1 : Int)))) fun r5 =>
     some r5.1
    else some false : Option (Bool)) fun x6 =>
   some (x6, ())
  else bif decide (a1.2.1 = (4 : Int)) then
   Option.bind (bif decide ((0 : Int) < (a1.2.2.1.length : Int)) then
     some (decide (a1.2.2.2 = (0 : Int)))
    else some false : Option (Bool)) fun x7 =>
   some (x7, ())
  else Option.bind (bif decide ((a1.2.2.1.length : Int) = (1 : Int)) then
    some (decide (a1.2.2.2 = (0 : Int)))
   else some false : Option (Bool)) fun x8 =>
  some (x8, ()) := by kernel_rfl
/- spec.l12Right -/
def c_sl12Right : TC :=
 (.seq (.rg [o1 2 (.a (.t 0)),
   o1 3 (.a (.t 1)),
   o1 4 (.lit [.b] [.bool false])])
 (.seq (.seq (.join [⟨17, [.b], false⟩] 262112 none (.rg [o1 5 (.idx .nil),
   o1 6 (.load 3 [] 1 (.t 5) 1 false),
   o3 7 98 [.t 6, .c [.i .i64] [.int .i64 (1)], .c [.i .i64] [.int .i64 (4)]],
   o1 8 (.data .not [.t 7]),
   o1 9 (.copy 8),
   o2 10 (.idx .nil) 4 false,
   o2 11 (.load 3 [] 2 (.t 10) 1 false) 4 false,
   o2 12 (.idx .nil) 4 false,
   o2 13 (.load 2 [] 0 (.t 12) 1 false) 4 false,
   o2 14 (.data (.bin .sub) [.t 13, .c (.int .i64 (1))]) 4 false,
   ⟨false, [], [], .call 1 98 [.t 11, .c [.i .i64] [.int .i64 (0)], .t 14] .no, [15], (some 15), some (4, false)⟩,
   o2 16 (.data .not [.t 15]) 4 false,
   ⟨false, [], [], .pick 9 (.c (.bool true)) (.t 16), [17], (some 17), none⟩]))
 (.cond (.t 17)
  (.seq (.rg [o1 4 (.lit [.b] [.bool false])])
  .ret)
  .skip))
 (.seq (.seq (.rg [o1 18 (.idx .nil),
   o1 19 (.load 3 [] 1 (.t 18) 1 false)])
 (.block 0 (.seq (.rg [o1 21 (.data (.bin .eql) [.t 19, .c (.int .i64 (4))]),
   o1 20 (.copy 21)])
 (.cond (.t 20)
  (.seq (.rg [o1 22 (.idx .nil),
    o1 23 (.load 3 [] 3 (.t 22) 1 false),
    o1 24 (.idx .nil),
    o1 25 (.load 2 [] 3 (.t 24) 1 false),
    o1 26 (.len 25),
    o3 27 98 [.t 23, .c [.i .i64] [.int .i64 (1)], .t 26],
    o1 4 (.copy 27)])
  .ret)
  (.seq (.rg [o1 29 (.data (.bin .eql) [.t 19, .c (.int .i64 (3))]),
    o1 28 (.copy 29)])
  (.cond (.t 28)
   (.seq (.rg [o1 30 (.idx .nil),
     o1 31 (.load 3 [] 3 (.t 30) 1 false),
     o1 32 (.idx .nil),
     o1 33 (.load 2 [] 0 (.t 32) 1 false),
     o1 34 (.data (.bin .sub) [.t 33, .c (.int .i64 (1))]),
     o3 35 98 [.t 31, .c [.i .i64] [.int .i64 (0)], .t 34],
     o1 4 (.copy 35)])
   .ret)
   .skip))))))
 (.seq (.join [⟨4, [.b], false⟩] 562881233944592 none (.rg [o1 36 (.idx .nil),
   o1 37 (.load 3 [] 3 (.t 36) 1 false),
   o1 38 (.idx .nil),
   o1 39 (.load 2 [] 0 (.t 38) 1 false),
   o1 40 (.data (.bin .sub) [.t 39, .c (.int .i64 (1))]),
   o3 41 98 [.t 37, .c [.i .i64] [.int .i64 (0)], .t 40],
   o1 42 (.copy 41),
   o2 43 (.idx .nil) 6 true,
   o2 44 (.load 3 [] 2 (.t 43) 1 false) 6 true,
   o2 45 (.idx .nil) 6 true,
   o2 46 (.load 3 [] 3 (.t 45) 1 false) 6 true,
   o2 47 (.data (.bin .neq) [.t 44, .t 46]) 6 true,
   ⟨false, [], [], .pick 42 (.t 47) (.c (.bool false)), [48], (some 48), none⟩,
   o1 4 (.copy 48)]))
 .ret))))
def s_sl12Right : Sig := ⟨[.rd true [.d, .sl (.own none) [.d], .sl (.own none) [.d, .d], .sl (.own none) [.sl (.own none) [.d]], .sl (.own none) [.d], .d, .d, .d, .d, .d, .d, .d, .sl (.own none) [.d, .d], .d, .sl (.own none) [.d, .d, .d, .d, .d, .d]], .rd true [.d, .d, .d, .d]], (.one false [.d])⟩
noncomputable def E_sl12Right : TEnv := envOf [(98, p_sl01In)]
noncomputable def f_sl12Right (n : Nat) : (Int × List (Int) × List (Int × Int) × List (List (Int)) × List (Int) × Int × Int × Int × Int × Int × Int × Int × List (Int × Int) × Int × List (Int × Int × Int × Int × Int × Int)) × (Int × Int × Int × Int) → Option ((Bool) × Unit) := runFn n E_sl12Right c_sl12Right [[.i .i64, .sl [.i .i64], .sl [.i .i64, .i .i64], .sl [.sl [.i .i64]], .sl [.i .i64], .i .i64, .i .i64, .i .i64, .i .i64, .i .i64, .i .i64, .i .i64, .sl [.i .i64, .i .i64], .i .i64, .sl [.i .i64, .i .i64, .i .i64, .i .i64, .i .i64, .i .i64]], [.i .i64, .i .i64, .i .i64, .i .i64]] [.b] [] [4] .no
noncomputable def g_sl12Right := f_sl12Right BIG
noncomputable def p_sl12Right : TSp := ⟨s_sl12Right, [[.i .i64, .sl [.i .i64], .sl [.i .i64, .i .i64], .sl [.sl [.i .i64]], .sl [.i .i64], .i .i64, .i .i64, .i .i64, .i .i64, .i .i64, .i .i64, .i .i64, .sl [.i .i64, .i .i64], .i .i64, .sl [.i .i64, .i .i64, .i .i64, .i .i64, .i .i64, .i .i64]], [.i .i64, .i .i64, .i .i64, .i .i64]], [.b], [], Ou.j .no, g_sl12Right⟩
theorem k_sl12Right : chkW PG E_sl12Right 192 s_sl12Right (c_sl12Right.ht 49) .no = some (c_sl12Right.wc E_sl12Right, [4]) := by kernel_rfl
theorem ok_sl12Right : p_sl12Right.Ok PG 192 := mkOk (env_cons ok_sl01In (env_nil PG)) k_sl12Right (by kernel_rfl)
theorem e_sl12Right (n : Nat) (a0 : Int × List (Int) × List (Int × Int) × List ((List (Int))) × List (Int) × Int × Int × Int × Int × Int × Int × Int × List (Int × Int) × Int × List (Int × Int × Int × Int × Int × Int)) (a1 : Int × Int × Int × Int) : f_sl12Right n (a0, a1) =
  Option.bind (Option.bind (g_sl01In (a1.2.1, (1 : Int), (4 : Int))) fun r0 =>
   bif !r0.1 then
    some true
   else Option.bind (g_sl01In (a1.2.2.1, (0 : Int), IntKind.wrap .i64 (a0.1 - (1 : Int)))) fun r1 =>
   some !r1.1 : Option (Bool)) fun x2 =>
  bif x2 then
   some (false, ())
  else bif decide (a1.2.1 = (4 : Int)) then
   Option.bind (g_sl01In (a1.2.2.2, (1 : Int), (a0.2.2.2.1.length : Int))) fun r3 =>
   some (r3.1, ())
  else bif decide (a1.2.1 = (3 : Int)) then
   Option.bind (g_sl01In (a1.2.2.2, (0 : Int), IntKind.wrap .i64 (a0.1 - (1 : Int)))) fun r4 =>
   some (r4.1, ())
  else Option.bind (Option.bind (g_sl01In (a1.2.2.2, (0 : Int), IntKind.wrap .i64 (a0.1 - (1 : Int)))) fun r5 =>
   bif r5.1 then
    some (!decide (a1.2.2.1 = a1.2.2.2))
   else some false : Option (Bool)) fun x6 =>
  some (x6, ()) := by kernel_rfl
/- spec.l12TaskOk -/
def c_sl12TaskOk : TC :=
 (.seq (.rg [o1 1 (.a (.t 0)),
   o1 2 (.lit [.b] [.bool false])])
 (.seq (.rg [o1 4 (.idx .nil),
   o1 5 (.load 1 [] 5 (.t 4) 9 false),
   ⟨false, [], [], .det 2 (.a (.c [.i .i64, .i .i64, .i .i64, .i .i64, .i .i64, .i .i64, .i .i64, .sl [.i .i64, .i .i64], .i .i64] [.int .i64 (0), .int .i64 (0), .int .i64 (0), .int .i64 (0), .int .i64 (0), .int .i64 (0), .int .i64 (0), .slice none 0 0, .int .i64 (0)])), [3, 1000000001], (some 3), none⟩,
   o4 1 [3] (.store 3 [] 0 .nil (.t 5))])
 (.seq (.seq (.rg [o1 6 (.load 3 [] 0 .nil 9 false),
   o3 7 330 [.t 6]])
 (.cond (.t 7)
  (.seq (.rg [o1 2 (.lit [.b] [.bool true])])
  .ret)
  .skip))
 (.seq (.join [⟨2, [.b], false⟩] 2305843009213693700 none (.rg [o1 8 (.idx .nil),
   o1 9 (.load 3 [] 4 (.t 8) 1 false),
   o1 10 (.idx .nil),
   o1 11 (.load 1 [] 3 (.t 10) 1 false),
   o1 12 (.len 11),
   o3 13 98 [.t 9, .c [.i .i64] [.int .i64 (1)], .t 12],
   o1 14 (.copy 13),
   o2 15 (.idx .nil) 6 true,
   o2 16 (.load 1 [] 0 (.t 15) 1 false) 6 true,
   o2 17 (.idx .nil) 6 true,
   o2 18 (.load 3 [] 5 (.t 17) 4 false) 6 true,
   ⟨false, [], [], .call 1 331 [.t 16, .t 18] .no, [19], (some 19), some (6, true)⟩,
   ⟨false, [], [], .pick 14 (.t 19) (.c (.bool false)), [20], (some 20), none⟩,
   o1 21 (.copy 20),
   o2 22 (.idx .nil) 13 true,
   o2 23 (.idx (.t 22)) 13 true,
   o2 24 (.load 3 [] 5 (.t 23) 1 false) 13 true,
   o2 25 (.idx .nil) 13 true,
   o2 26 (.load 1 [] 4 (.t 25) 1 false) 13 true,
   o2 27 (.idx .nil) 13 true,
   o2 28 (.load 3 [] 4 (.t 27) 1 false) 13 true,
   o2 29 (.data (.bin .sub) [.t 28, .c (.int .i64 (1))]) 13 true,
   o2 30 (.index 26 (.t 29)) 13 true,
   o2 31 (.load 26 [(0, 1)] 0 (.t 30) 1 false) 13 true,
   o2 32 (.data (.bin .add) [.t 31, .c (.int .i64 (1))]) 13 true,
   o2 33 (.data (.bin .eql) [.t 24, .t 32]) 13 true,
   ⟨false, [], [], .pick 21 (.t 33) (.c (.bool false)), [34], (some 34), none⟩,
   o1 35 (.copy 34),
   o2 36 (.load 1 [] 0 .nil 15 false) 27 true,
   o2 37 (.idx .nil) 27 true,
   o2 38 (.idx (.t 37)) 27 true,
   o2 39 (.load 3 [] 0 (.t 38) 1 false) 27 true,
   ⟨false, [], [], .call 1 191 [.t 36, .t 39] .no, [40], (some 40), some (27, true)⟩,
   o2 41 (.data (.bin .lss) [.t 40, .c (.int .i64 (0))]) 27 true,
   ⟨false, [], [], .pick 35 (.t 41) (.c (.bool false)), [42], (some 42), none⟩,
   o1 43 (.copy 42),
   o2 44 (.load 1 [] 0 .nil 15 false) 35 true,
   o2 45 (.idx .nil) 35 true,
   o2 46 (.load 3 [] 0 (.t 45) 4 false) 35 true,
   ⟨false, [], [], .call 1 192 [.t 44, .t 46] .no, [47], (some 47), some (35, true)⟩,
   ⟨false, [], [], .pick 43 (.t 47) (.c (.bool false)), [48], (some 48), none⟩,
   o1 49 (.copy 48),
   o2 50 (.idx .nil) 41 true,
   o2 51 (.idx (.t 50)) 41 true,
   o2 52 (.load 3 [] 1 (.t 51) 1 false) 41 true,
   o2 53 (.data (.bin .neq) [.t 52, .c (.int .i64 (3))]) 41 true,
   ⟨false, [], [], .pick 49 (.t 53) (.c (.bool false)), [54], (some 54), none⟩,
   o1 55 (.copy 54),
   o2 56 (.idx .nil) 47 true,
   o2 57 (.idx (.t 56)) 47 true,
   o2 58 (.load 3 [] 0 (.t 57) 1 false) 47 true,
   ⟨false, [], [], .call 1 98 [.t 58, .c [.i .i64] [.int .i64 (1)], .c [.i .i64] [.int .i64 (100000)]] .no, [59], (some 59), some (47, true)⟩,
   ⟨false, [], [], .pick 55 (.t 59) (.c (.bool false)), [60], (some 60), none⟩,
   o1 2 (.copy 60)]))
 .ret))))
def s_sl12TaskOk : Sig := ⟨[.rd true [.d, .sl (.own none) [.d], .sl (.own none) [.d, .d], .sl (.own none) [.sl (.own none) [.d]], .sl (.own none) [.d], .d, .d, .d, .d, .d, .d, .d, .sl (.own none) [.d, .d], .d, .sl (.own none) [.d, .d, .d, .d, .d, .d]]], (.one false [.d])⟩
noncomputable def E_sl12TaskOk : TEnv := envOf [(330, p_sl12BlankTask), (98, p_sl01In), (331, p_sOrderOk), (191, p_sl12Said), (192, p_sl12Right)]
noncomputable def f_sl12TaskOk (n : Nat) : (Int × List (Int) × List (Int × Int) × List (List (Int)) × List (Int) × Int × Int × Int × Int × Int × Int × Int × List (Int × Int) × Int × List (Int × Int × Int × Int × Int × Int)) → Option ((Bool) × Unit) := runFn n E_sl12TaskOk c_sl12TaskOk [[.i .i64, .sl [.i .i64], .sl [.i .i64, .i .i64], .sl [.sl [.i .i64]], .sl [.i .i64], .i .i64, .i .i64, .i .i64, .i .i64, .i .i64, .i .i64, .i .i64, .sl [.i .i64, .i .i64], .i .i64, .sl [.i .i64, .i .i64, .i .i64, .i .i64, .i .i64, .i .i64]]] [.b] [] [2] .no
noncomputable def g_sl12TaskOk := f_sl12TaskOk BIG
noncomputable def p_sl12TaskOk : TSp := ⟨s_sl12TaskOk, [[.i .i64, .sl [.i .i64], .sl [.i .i64, .i .i64], .sl [.sl [.i .i64]], .sl [.i .i64], .i .i64, .i .i64, .i .i64, .i .i64, .i .i64, .i .i64, .i .i64, .sl [.i .i64, .i .i64], .i .i64, .sl [.i .i64, .i .i64, .i .i64, .i .i64, .i .i64, .i .i64]]], [.b], [], Ou.j .no, g_sl12TaskOk⟩
theorem k_sl12TaskOk : chkW PG E_sl12TaskOk 282 s_sl12TaskOk (c_sl12TaskOk.ht 61) .no = some (c_sl12TaskOk.wc E_sl12TaskOk, [2]) := by kernel_rfl
theorem ok_sl12TaskOk : p_sl12TaskOk.Ok PG 282 := mkOk (env_cons ok_sl12BlankTask (env_cons ok_sl01In (env_cons ok_sOrderOk (env_cons ok_sl12Said (env_cons ok_sl12Right (env_nil PG)))))) k_sl12TaskOk (by kernel_rfl)
theorem e_sl12TaskOk (n : Nat) (a0 : Int × List (Int) × List (Int × Int) × List ((List (Int))) × List (Int) × Int × Int × Int × Int × Int × Int × Int × List (Int × Int) × Int × List (Int × Int × Int × Int × Int × Int)) : f_sl12TaskOk n a0 =
  Option.bind (g_sl12BlankTask (a0.2.2.2.2.2.1, a0.2.2.2.2.2.2.1, a0.2.2.2.2.2.2.2.1, a0.2.2.2.2.2.2.2.2.1, a0.2.2.2.2.2.2.2.2.2.1, a0.2.2.2.2.2.2.2.2.2.2.1, a0.2.2.2.2.2.2.2.2.2.2.2.1, a0.2.2.2.2.2.2.2.2.2.2.2.2.1, a0.2.2.2.2.2.2.2.2.2.2.2.2.2.1)) fun r0 =>
  bif r0.1 then
   some (true, ())
  else Option.bind (Option.bind (g_sl01In (a0.2.2.2.2.2.2.2.2.2.1, (1 : Int), (a0.2.2.2.1.length : Int))) fun r1 =>
   bif r1.1 then
    Option.bind (g_sOrderOk (a0.1, (a0.2.2.2.2.2.2.2.2.2.2.1, a0.2.2.2.2.2.2.2.2.2.2.2.1, a0.2.2.2.2.2.2.2.2.2.2.2.2.1, a0.2.2.2.2.2.2.2.2.2.2.2.2.2.1))) fun r2 =>
    bif r2.1 then
     bnd a0.2.2.2.2.1.length (IntKind.wrap .i64 (a0.2.2.2.2.2.2.2.2.2.1 - (1 : Int))) fun n3 =>
     Option.bind a0.2.2.2.2.1[n3]? fun y4 =>
     bif decide (a0.2.2.2.2.2.2.2.2.2.2.1 = (IntKind.wrap .i64 (y4 + (1 : Int)))) then
      Option.bind (g_sl12Said (a0, a0.2.2.2.2.2.1)) fun r5 =>
      bif decide (r5.1 < (0 : Int)) then
       Option.bind (g_sl12Right (a0, (a0.2.2.2.2.2.1, a0.2.2.2.2.2.2.1, a0.2.2.2.2.2.2.2.1, a0.2.2.2.2.2.2.2.2.1))) fun r6 =>
       bif r6.1 then
        bif !decide (a0.2.2.2.2.2.2.1 = (3 : Int)) then
         Option.bind (g_sl01In (a0.2.2.2.2.2.1, (1 : Int), (100000 : Int))) fun r7 =>
         some r7.1
        else some false
       else some false
      else some false
     else some false
    else some false
   else some false : Option (Bool)) fun x8 =>
  some (x8, ()) := by kernel_rfl
/- spec.HeadOk -/
def c_sHeadOk : TC :=
 (.seq (.rg [o1 1 (.a (.t 0)),
   o1 2 (.lit [.b] [.bool false])])
 (.seq (.seq (.join [⟨49, [.b], false⟩] 1125899906842368 none (.rg [o1 8 (.idx .nil),
   o1 9 (.load 1 [] 0 (.t 8) 1 false),
   o3 10 98 [.t 9, .c [.i .i64] [.int .i64 (1)], .c [.i .i64] [.int .i64 (12)]],
   o1 11 (.data .not [.t 10]),
   o1 12 (.copy 11),
   o2 13 (.idx .nil) 4 false,
   o2 14 (.load 1 [] 3 (.t 13) 1 false) 4 false,
   o2 15 (.len 14) 4 false,
   ⟨false, [], [], .call 1 98 [.t 15, .c [.i .i64] [.int .i64 (1)], .c [.i .i64] [.int .i64 (3)]] .no, [16], (some 16), some (4, false)⟩,
   o2 17 (.data .not [.t 16]) 4 false,
   ⟨false, [], [], .pick 12 (.c (.bool true)) (.t 17), [18], (some 18), none⟩,
   o1 19 (.copy 18),
   o2 20 (.idx .nil) 11 false,
   o2 21 (.load 1 [] 4 (.t 20) 1 false) 11 false,
   o2 22 (.len 21) 11 false,
   o2 23 (.idx .nil) 11 false,
   o2 24 (.load 1 [] 3 (.t 23) 1 false) 11 false,
   o2 25 (.len 24) 11 false,
   o2 26 (.data (.bin .neq) [.t 22, .t 25]) 11 false,
   ⟨false, [], [], .pick 19 (.c (.bool true)) (.t 26), [27], (some 27), none⟩,
   o1 28 (.copy 27),
   o2 29 (.idx .nil) 20 false,
   o2 30 (.load 1 [] 1 (.t 29) 1 false) 20 false,
   o2 31 (.len 30) 20 false,
   o2 32 (.idx .nil) 20 false,
   o2 33 (.load 1 [] 0 (.t 32) 1 false) 20 false,
   o2 34 (.data (.bin .neq) [.t 31, .t 33]) 20 false,
   ⟨false, [], [], .pick 28 (.c (.bool true)) (.t 34), [35], (some 35), none⟩,
   o1 36 (.copy 35),
   o2 37 (.idx .nil) 28 false,
   o2 38 (.load 1 [] 0 (.t 37) 1 false) 28 false,
   o2 39 (.idx .nil) 28 false,
   o2 40 (.load 1 [] 2 (.t 39) 1 false) 28 false,
   ⟨false, [], [], .call 1 233 [.t 38, .t 40] .no, [41], (some 41), some (28, false)⟩,
   o2 42 (.data .not [.t 41]) 28 false,
   ⟨false, [], [], .pick 36 (.c (.bool true)) (.t 42), [43], (some 43), none⟩,
   o1 44 (.copy 43),
   o2 45 (.idx .nil) 36 false,
   o2 46 (.load 1 [] 14 (.t 45) 1 false) 36 false,
   o2 47 (.len 46) 36 false,
   o2 48 (.data (.bin .gtr) [.t 47, .c (.int .i64 (80))]) 36 false,
   ⟨false, [], [], .pick 44 (.c (.bool true)) (.t 48), [49], (some 49), none⟩]))
 (.cond (.t 49)
  (.seq (.rg [o1 2 (.lit [.b] [.bool false])])
  .ret)
  .skip))
 (.seq (.join [] 37778930737057254866956 (some [⟨2, [.b], false⟩]) (.seq (.rg [o1 3 (.lit [.i .i64] [.int .i64 (0)])])
 (.block 0 (.loop [⟨3, [.i .i64], false⟩] 37778930737057254866956
  (.seq (.seq (.rg [o1 50 (.copy 3),
    o1 51 (.idx .nil),
    o1 52 (.load 1 [] 3 (.t 51) 1 false),
    o1 53 (.len 52),
    o1 54 (.data (.bin .lss) [.t 50, .t 53])])
  (.cond (.t 54)
   .skip
   (.exit 0)))
  (.seq (.join [] 37778787747769085853700 (some [⟨2, [.b], false⟩]) (.block 1 (.seq (.join [⟨74, [.b], false⟩] 37778787747769085853696 none (.rg [o1 57 (.idx .nil),
    o1 58 (.load 1 [] 0 (.t 57) 1 false),
    o1 59 (.idx .nil),
    o1 60 (.load 1 [] 3 (.t 59) 1 false),
    o1 61 (.copy 3),
    o1 62 (.index 60 (.t 61)),
    o1 63 (.load 60 [(0, 1)] 0 (.t 62) 1 false),
    o3 64 248 [.t 58, .t 63],
    o1 65 (.data .not [.t 64]),
    o1 66 (.copy 65),
    o2 67 (.idx .nil) 9 false,
    o2 68 (.load 1 [] 4 (.t 67) 1 false) 9 false,
    o2 69 (.copy 3) 9 false,
    o2 70 (.index 68 (.t 69)) 9 false,
    o2 71 (.load 68 [(0, 1)] 0 (.t 70) 1 false) 9 false,
    ⟨false, [], [], .call 1 98 [.t 71, .c [.i .i64] [.int .i64 (0)], .c [.i .i64] [.int .i64 (99991)]] .no, [72], (some 72), some (9, false)⟩,
    o2 73 (.data .not [.t 72]) 9 false,
    ⟨false, [], [], .pick 66 (.c (.bool true)) (.t 73), [74], (some 74), none⟩]))
  (.cond (.t 74)
   (.seq (.rg [o1 2 (.lit [.b] [.bool false])])
   .ret)
   .skip))))
  (.rg [o1 55 (.copy 3),
    o1 56 (.data (.bin .add) [.t 55, .c (.int .i64 (1))]),
    o1 3 (.copy 56)])))))))
 (.seq (.join [] 2475842299638897592636538900 (some [⟨2, [.b], false⟩]) (.seq (.rg [o1 4 (.lit [.i .i64] [.int .i64 (0)])])
 (.block 2 (.loop [⟨4, [.i .i64], false⟩] 2475842299638897592636538900
  (.seq (.seq (.rg [o1 75 (.copy 4),
    o1 76 (.idx .nil),
    o1 77 (.load 1 [] 0 (.t 76) 1 false),
    o1 78 (.data (.bin .lss) [.t 75, .t 77])])
  (.cond (.t 78)
   .skip
   (.exit 2)))
  (.seq (.block 3 (.seq (.rg [o1 81 (.idx .nil),
    o1 82 (.load 1 [] 1 (.t 81) 1 false),
    o1 83 (.copy 4),
    o1 84 (.index 82 (.t 83)),
    o1 85 (.load 82 [(0, 1)] 0 (.t 84) 1 false),
    o1 86 (.idx .nil),
    o1 87 (.load 1 [] 3 (.t 86) 1 false),
    o1 88 (.len 87),
    o3 89 98 [.t 85, .c [.i .i64] [.int .i64 (1)], .t 88],
    o1 90 (.data .not [.t 89])])
  (.cond (.t 90)
   (.seq (.rg [o1 2 (.lit [.b] [.bool false])])
   .ret)
   .skip)))
  (.rg [o1 79 (.copy 4),
    o1 80 (.data (.bin .add) [.t 79, .c (.int .i64 (1))]),
    o1 4 (.copy 80)])))))))
 (.seq (.join [] 664613995416577857881142980341923876 (some [⟨2, [.b], false⟩]) (.seq (.rg [o1 5 (.lit [.i .i64] [.int .i64 (0)])])
 (.block 4 (.loop [⟨5, [.i .i64], false⟩] 664613995416577857881142980341923876
  (.seq (.seq (.rg [o1 91 (.copy 5),
    o1 92 (.idx .nil),
    o1 93 (.load 1 [] 2 (.t 92) 1 false),
    o1 94 (.len 93),
    o1 95 (.data (.bin .lss) [.t 91, .t 94])])
  (.cond (.t 95)
   .skip
   (.exit 4)))
  (.seq (.block 5 (.seq (.rg [o1 98 (.idx .nil),
    o1 99 (.load 1 [] 1 (.t 98) 1 false),
    o1 100 (.idx .nil),
    o1 101 (.load 1 [] 2 (.t 100) 1 false),
    o1 102 (.copy 5),
    o1 103 (.index 101 (.t 102)),
    o1 104 (.idx (.t 103)),
    o1 105 (.load 101 [(0, 2)] 0 (.t 104) 1 false),
    o1 106 (.index 99 (.t 105)),
    o1 107 (.load 99 [(0, 1)] 0 (.t 106) 1 false),
    o1 108 (.idx .nil),
    o1 109 (.load 1 [] 1 (.t 108) 1 false),
    o1 110 (.idx .nil),
    o1 111 (.load 1 [] 2 (.t 110) 1 false),
    o1 112 (.copy 5),
    o1 113 (.index 111 (.t 112)),
    o1 114 (.idx (.t 113)),
    o1 115 (.load 111 [(0, 2)] 1 (.t 114) 1 false),
    o1 116 (.index 109 (.t 115)),
    o1 117 (.load 109 [(0, 1)] 0 (.t 116) 1 false),
    o1 118 (.data (.bin .eql) [.t 107, .t 117])])
  (.cond (.t 118)
   (.seq (.rg [o1 2 (.lit [.b] [.bool false])])
   .ret)
   .skip)))
  (.rg [o1 96 (.copy 5),
    o1 97 (.data (.bin .add) [.t 96, .c (.int .i64 (1))]),
    o1 5 (.copy 97)])))))))
 (.seq (.join [] 2854495384747305764224114002447086742625321156 (some [⟨2, [.b], false⟩]) (.seq (.rg [o1 6 (.lit [.i .i64] [.int .i64 (0)])])
 (.block 6 (.loop [⟨6, [.i .i64], false⟩] 2854495384747305764224114002447086742625321156
  (.seq (.seq (.rg [o1 119 (.copy 6),
    o1 120 (.idx .nil),
    o1 121 (.load 1 [] 14 (.t 120) 1 false),
    o1 122 (.len 121),
    o1 123 (.data (.bin .lss) [.t 119, .t 122])])
  (.cond (.t 123)
   .skip
   (.exit 6)))
  (.seq (.join [] 2854495300341328031881956073055338414823440516 (some [⟨2, [.b], false⟩]) (.block 7 (.seq (.rg [o1 126 (.idx .nil),
    o1 127 (.load 1 [] 14 (.t 126) 1 false),
    o1 128 (.copy 6),
    o1 129 (.index 127 (.t 128)),
    o1 130 (.load 127 [(0, 6)] 0 (.t 129) 6 false),
    ⟨false, [], [], .det 2 (.a (.c [.i .i64, .i .i64, .i .i64, .i .i64, .i .i64, .i .i64] [.int .i64 (0), .int .i64 (0), .int .i64 (0), .int .i64 (0), .int .i64 (0), .int .i64 (0)])), [7, 1000000001], (some 7), none⟩,
    o4 1 [7] (.store 7 [] 0 .nil (.t 130))])
  (.seq (.join [⟨150, [.b], false⟩] 2854492663152984394608864231902130818619801600 none (.rg [o1 131 (.idx .nil),
    o1 132 (.load 7 [] 0 (.t 131) 1 false),
    o1 133 (.idx .nil),
    o1 134 (.idx (.t 133)),
    o1 135 (.load 7 [] 1 (.t 134) 1 false),
    o1 136 (.data (.bin .neq) [.t 132, .t 135]),
    o1 137 (.copy 136),
    o2 138 (.idx .nil) 6 false,
    o2 139 (.load 7 [] 5 (.t 138) 1 false) 6 false,
    ⟨false, [], [], .call 1 98 [.t 139, .c [.i .i64] [.int .i64 (1)], .c [.i .i64] [.int .i64 (3)]] .no, [140], (some 140), some (6, false)⟩,
    o2 141 (.data .not [.t 140]) 6 false,
    ⟨false, [], [], .pick 137 (.c (.bool true)) (.t 141), [142], (some 142), none⟩,
    o1 143 (.copy 142),
    o2 144 (.load 1 [] 0 .nil 15 false) 12 false,
    o2 145 (.idx .nil) 12 false,
    o2 146 (.load 7 [] 0 (.t 145) 1 false) 12 false,
    ⟨false, [], [], .call 1 191 [.t 144, .t 146] .no, [147], (some 147), some (12, false)⟩,
    o2 148 (.copy 6) 12 false,
    o2 149 (.data (.bin .neq) [.t 147, .t 148]) 12 false,
    ⟨false, [], [], .pick 143 (.c (.bool true)) (.t 149), [150], (some 150), none⟩]))
  (.cond (.t 150)
   (.seq (.rg [o1 2 (.lit [.b] [.bool false])])
   .ret)
   .skip)))))
  (.rg [o1 124 (.copy 6),
    o1 125 (.data (.bin .add) [.t 124, .c (.int .i64 (1))]),
    o1 6 (.copy 125)])))))))
 (.seq (.rg [o1 151 (.load 1 [] 0 .nil 15 false),
   o3 152 282 [.t 151],
   o1 2 (.copy 152)])
 .ret)))))))
def s_sHeadOk : Sig := ⟨[.rd true [.d, .sl (.own none) [.d], .sl (.own none) [.d, .d], .sl (.own none) [.sl (.own none) [.d]], .sl (.own none) [.d], .d, .d, .d, .d, .d, .d, .d, .sl (.own none) [.d, .d], .d, .sl (.own none) [.d, .d, .d, .d, .d, .d]]], (.one false [.d])⟩
noncomputable def E_sHeadOk : TEnv := envOf [(98, p_sl01In), (233, p_sl05Edges), (248, p_sl09Labels), (191, p_sl12Said), (282, p_sl12TaskOk)]
noncomputable def f_sHeadOk (n : Nat) : (Int × List (Int) × List (Int × Int) × List (List (Int)) × List (Int) × Int × Int × Int × Int × Int × Int × Int × List (Int × Int) × Int × List (Int × Int × Int × Int × Int × Int)) → Option ((Bool) × Unit) := runFn n E_sHeadOk c_sHeadOk [[.i .i64, .sl [.i .i64], .sl [.i .i64, .i .i64], .sl [.sl [.i .i64]], .sl [.i .i64], .i .i64, .i .i64, .i .i64, .i .i64, .i .i64, .i .i64, .i .i64, .sl [.i .i64, .i .i64], .i .i64, .sl [.i .i64, .i .i64, .i .i64, .i .i64, .i .i64, .i .i64]]] [.b] [] [2] .no
noncomputable def g_sHeadOk := f_sHeadOk BIG
noncomputable def p_sHeadOk : TSp := ⟨s_sHeadOk, [[.i .i64, .sl [.i .i64], .sl [.i .i64, .i .i64], .sl [.sl [.i .i64]], .sl [.i .i64], .i .i64, .i .i64, .i .i64, .i .i64, .i .i64, .i .i64, .i .i64, .sl [.i .i64, .i .i64], .i .i64, .sl [.i .i64, .i .i64, .i .i64, .i .i64, .i .i64, .i .i64]]], [.b], [], Ou.j .no, g_sHeadOk⟩
theorem k_sHeadOk : chkW PG E_sHeadOk 168 s_sHeadOk (c_sHeadOk.ht 153) .no = some (c_sHeadOk.wc E_sHeadOk, [2]) := by kernel_rfl
theorem ok_sHeadOk : p_sHeadOk.Ok PG 168 := mkOk (env_cons ok_sl01In (env_cons ok_sl05Edges (env_cons ok_sl09Labels (env_cons ok_sl12Said (env_cons ok_sl12TaskOk (env_nil PG)))))) k_sHeadOk (by kernel_rfl)
theorem e_sHeadOk (n : Nat) (a0 : Int × List (Int) × List (Int × Int) × List ((List (Int))) × List (Int) × Int × Int × Int × Int × Int × Int × Int × List (Int × Int) × Int × List (Int × Int × Int × Int × Int × Int)) : f_sHeadOk n a0 =
  Option.bind (Option.bind (g_sl01In (a0.1, (1 : Int), (12 : Int))) fun r0 =>
   bif !r0.1 then
    some true
   else Option.bind (g_sl01In ((a0.2.2.2.1.length : Int), (1 : Int), (3 : Int))) fun r1 =>
   bif !r1.1 then
    some true
   else bif !decide ((a0.2.2.2.2.1.length : Int) = (a0.2.2.2.1.length : Int)) then
    some true
   else bif !decide ((a0.2.1.length : Int) = a0.1) then
    some true
   else Option.bind (g_sl05Edges (a0.1, a0.2.2.1)) fun r2 =>
   bif !r2.1 then
    some true
   else some (decide ((80 : Int) < (a0.2.2.2.2.2.2.2.2.2.2.2.2.2.2.length : Int))) : Option (Bool)) fun x3 =>
  bif x3 then
   some (false, ())
  else Option.bind (loopT n (X := Int) (B := (Unit) ⊕ (Bool)) (fun self5 x4 =>
    bif decide (x4 < (a0.2.2.2.1.length : Int)) then
     Option.bind (Option.bind (bnd a0.2.2.2.1.length x4 fun n6 =>
       Option.bind a0.2.2.2.1[n6]? fun y7 =>
       Option.bind (g_sl09Labels (a0.1, y7)) fun r8 =>
       bif !r8.1 then
        some true
       else bnd a0.2.2.2.2.1.length x4 fun n9 =>
       Option.bind a0.2.2.2.2.1[n9]? fun y10 =>
       Option.bind (g_sl01In (y10, (0 : Int), (99991 : Int))) fun r11 =>
       some !r11.1 : Option (Bool)) fun x12 =>
      bif x12 then
       some (Sum.inr false)
      else some (Sum.inl ()) : Option ((Unit) ⊕ (Bool))) fun y => match y with
     | .inl x13 =>
      self5 (IntKind.wrap .i64 (x4 + (1 : Int)))
     | .inr x13 =>
      some (Sum.inr x13)
    else some (Sum.inl ())) (0 : Int) : Option ((Unit) ⊕ (Bool))) fun y => match y with
  | .inl x14 =>
   Option.bind (loopT n (X := Int) (B := (Unit) ⊕ (Bool)) (fun self16 x15 =>
     bif decide (x15 < a0.1) then
      bnd a0.2.1.length x15 fun n17 =>
      Option.bind a0.2.1[n17]? fun y18 =>
      Option.bind (g_sl01In (y18, (1 : Int), (a0.2.2.2.1.length : Int))) fun r19 =>
      bif !r19.1 then
       some (Sum.inr false)
      else self16 (IntKind.wrap .i64 (x15 + (1 : Int)))
     else some (Sum.inl ())) (0 : Int) : Option ((Unit) ⊕ (Bool))) fun y => match y with
   | .inl x20 =>
    Option.bind (loopT n (X := Int) (B := (Unit) ⊕ (Bool)) (fun self22 x21 =>
      bif decide (x21 < (a0.2.2.1.length : Int)) then
       bnd a0.2.2.1.length x21 fun n23 =>
       Option.bind a0.2.2.1[n23]? fun y24 =>
       bnd a0.2.1.length y24.1 fun n25 =>
       Option.bind a0.2.1[n25]? fun y26 =>
       bnd a0.2.2.1.length x21 fun n27 =>
       Option.bind a0.2.2.1[n27]? fun y28 =>
       bnd a0.2.1.length y28.2 fun n29 =>
       Option.bind a0.2.1[n29]? fun y30 =>
       bif decide (y26 = y30) then
        some (Sum.inr false)
       else self22 (IntKind.wrap .i64 (x21 + (1 : Int)))
      else some (Sum.inl ())) (0 : Int) : Option ((Unit) ⊕ (Bool))) fun y => match y with
    | .inl x31 =>
     Option.bind (loopT n (X := Int) (B := (Unit) ⊕ (Bool)) (fun self33 x32 =>
       bif decide (x32 < (a0.2.2.2.2.2.2.2.2.2.2.2.2.2.2.length : Int)) then
        Option.bind (bnd a0.2.2.2.2.2.2.2.2.2.2.2.2.2.2.length x32 fun n34 =>
         Option.bind a0.2.2.2.2.2.2.2.2.2.2.2.2.2.2[n34]? fun y35 =>
         Option.bind (bif !decide (y35.1 = y35.2.1) then
           some true
          else Option.bind (g_sl01In (y35.2.2.2.2.2, (1 : Int), (3 : Int))) fun r36 =>
          bif !r36.1 then
           some true
          else Option.bind (g_sl12Said (a0, y35.1)) fun r37 =>
          some (!decide (r37.1 = x32)) : Option (Bool)) fun x38 =>
         bif x38 then
          some (Sum.inr false)
         else some (Sum.inl ()) : Option ((Unit) ⊕ (Bool))) fun y => match y with
        | .inl x39 =>
         self33 (IntKind.wrap .i64 (x32 + (1 : Int)))
        | .inr x39 =>
         some (Sum.inr x39)
       else some (Sum.inl ())) (0 : Int) : Option ((Unit) ⊕ (Bool))) fun y => match y with
     | .inl x40 =>
      Option.bind (g_sl12TaskOk a0) fun r41 =>
      some (r41.1, ())
     | .inr x40 =>
      some (x40, ())
    | .inr x31 =>
     some (x31, ())
   | .inr x20 =>
    some (x20, ())
  | .inr x14 =>
   some (x14, ()) := by kernel_rfl
/- spec.AnswerOk -/
def c_sAnswerOk : TC :=
 (.seq (.rg [o1 3 (.a (.t 1)),
   o1 4 (.lit [.b] [.bool false])])
 (.seq (.join [⟨4, [.b], false⟩] 16777200 none (.rg [o1 5 (.copy 0),
   o3 6 98 [.t 5, .c [.i .i64] [.int .i64 (1)], .c [.i .i64] [.int .i64 (12)]],
   o1 7 (.copy 6),
   o2 8 (.idx .nil) 2 true,
   o2 9 (.load 3 [] 0 (.t 8) 1 false) 2 true,
   ⟨false, [], [], .call 1 98 [.t 9, .c [.i .i64] [.int .i64 (1)], .c [.i .i64] [.int .i64 (100000)]] .no, [10], (some 10), some (2, true)⟩,
   ⟨false, [], [], .pick 7 (.t 10) (.c (.bool false)), [11], (some 11), none⟩,
   o1 12 (.copy 11),
   o2 13 (.copy 0) 7 true,
   o2 14 (.idx .nil) 7 true,
   o2 15 (.load 3 [] 2 (.t 14) 1 false) 7 true,
   ⟨false, [], [], .call 1 233 [.t 13, .t 15] .no, [16], (some 16), some (7, true)⟩,
   ⟨false, [], [], .pick 12 (.t 16) (.c (.bool false)), [17], (some 17), none⟩,
   o1 18 (.copy 17),
   o2 19 (.copy 0) 13 true,
   o2 20 (.idx .nil) 13 true,
   o2 21 (.load 3 [] 3 (.t 20) 1 false) 13 true,
   ⟨false, [], [], .call 1 248 [.t 19, .t 21] .no, [22], (some 22), some (13, true)⟩,
   ⟨false, [], [], .pick 18 (.t 22) (.c (.bool false)), [23], (some 23), none⟩,
   o1 4 (.copy 23)]))
 .ret))
def s_sAnswerOk : Sig := ⟨[.rd false [.d], .rd true [.d, .d, .sl (.own none) [.d, .d], .sl (.own none) [.d]]], (.one false [.d])⟩
noncomputable def E_sAnswerOk : TEnv := envOf [(98, p_sl01In), (233, p_sl05Edges), (248, p_sl09Labels)]
noncomputable def f_sAnswerOk (n : Nat) : Int × (Int × Bool × List (Int × Int) × List (Int)) → Option ((Bool) × Unit) := runFn n E_sAnswerOk c_sAnswerOk [[.i .i64], [.i .i64, .b, .sl [.i .i64, .i .i64], .sl [.i .i64]]] [.b] [] [4] .no
noncomputable def g_sAnswerOk := f_sAnswerOk BIG
noncomputable def p_sAnswerOk : TSp := ⟨s_sAnswerOk, [[.i .i64], [.i .i64, .b, .sl [.i .i64, .i .i64], .sl [.i .i64]]], [.b], [], Ou.j .no, g_sAnswerOk⟩
theorem k_sAnswerOk : chkW PG E_sAnswerOk 130 s_sAnswerOk (c_sAnswerOk.ht 24) .no = some (c_sAnswerOk.wc E_sAnswerOk, [4]) := by kernel_rfl
theorem ok_sAnswerOk : p_sAnswerOk.Ok PG 130 := mkOk (env_cons ok_sl01In (env_cons ok_sl05Edges (env_cons ok_sl09Labels (env_nil PG)))) k_sAnswerOk (by kernel_rfl)
theorem e_sAnswerOk (n : Nat) (a0 : Int) (a1 : Int × Bool × List (Int × Int) × List (Int)) : f_sAnswerOk n (a0, a1) =
  Option.bind (Option.bind (g_sl01In (a0, (1 : Int), (12 : Int))) fun r0 =>
   bif r0.1 then
    Option.bind (g_sl01In (a1.1, (1 : Int), (100000 : Int))) fun r1 =>
    bif r1.1 then
     Option.bind (g_sl05Edges (a0, a1.2.2.1)) fun r2 =>
     bif r2.1 then
      Option.bind (g_sl09Labels (a0, a1.2.2.2)) fun r3 =>
      some r3.1
     else some false
    else some false
   else some false : Option (Bool)) fun x4 =>
  some (x4, ()) := by kernel_rfl
/- spec.Busy -/
def c_sBusy : TC :=
 (.seq (.rg [o1 1 (.a (.t 0)),
   o1 2 (.lit [.b] [.bool false])])
 (.seq (.rg [o1 3 (.idx .nil),
   o1 4 (.idx (.t 3)),
   o1 5 (.load 1 [] 9 (.t 4) 1 false),
   o1 6 (.data (.bin .neq) [.t 5, .c (.int .i64 (0))]),
   o1 2 (.copy 6)])
 .ret))
def s_sBusy : Sig := ⟨[.rd true [.d, .sl (.own none) [.d], .sl (.own none) [.d, .d], .sl (.own none) [.sl (.own none) [.d]], .sl (.own none) [.d], .d, .d, .d, .d, .d, .d, .d, .sl (.own none) [.d, .d], .d, .sl (.own none) [.d, .d, .d, .d, .d, .d]]], (.one false [.d])⟩
noncomputable def E_sBusy : TEnv := envOf []
noncomputable def f_sBusy (n : Nat) : (Int × List (Int) × List (Int × Int) × List (List (Int)) × List (Int) × Int × Int × Int × Int × Int × Int × Int × List (Int × Int) × Int × List (Int × Int × Int × Int × Int × Int)) → Option ((Bool) × Unit) := runFn n E_sBusy c_sBusy [[.i .i64, .sl [.i .i64], .sl [.i .i64, .i .i64], .sl [.sl [.i .i64]], .sl [.i .i64], .i .i64, .i .i64, .i .i64, .i .i64, .i .i64, .i .i64, .i .i64, .sl [.i .i64, .i .i64], .i .i64, .sl [.i .i64, .i .i64, .i .i64, .i .i64, .i .i64, .i .i64]]] [.b] [] [2] .no
noncomputable def g_sBusy := f_sBusy BIG
noncomputable def p_sBusy : TSp := ⟨s_sBusy, [[.i .i64, .sl [.i .i64], .sl [.i .i64, .i .i64], .sl [.sl [.i .i64]], .sl [.i .i64], .i .i64, .i .i64, .i .i64, .i .i64, .i .i64, .i .i64, .i .i64, .sl [.i .i64, .i .i64], .i .i64, .sl [.i .i64, .i .i64, .i .i64, .i .i64, .i .i64, .i .i64]]], [.b], [], Ou.j .no, g_sBusy⟩
theorem k_sBusy : chkW PG E_sBusy 169 s_sBusy (c_sBusy.ht 7) .no = some (c_sBusy.wc E_sBusy, [2]) := by kernel_rfl
theorem ok_sBusy : p_sBusy.Ok PG 169 := mkOk (env_nil PG) k_sBusy (by kernel_rfl)
theorem e_sBusy (n : Nat) (a0 : Int × List (Int) × List (Int × Int) × List ((List (Int))) × List (Int) × Int × Int × Int × Int × Int × Int × Int × List (Int × Int) × Int × List (Int × Int × Int × Int × Int × Int)) : f_sBusy n a0 =
  some (!decide (a0.2.2.2.2.2.2.2.2.2.1 = (0 : Int)), ()) := by kernel_rfl
/- spec.l05Has -/
def c_sl05Has : TC :=
 (.seq (.rg [o1 3 (.a (.t 1)),
   o1 4 (.lit [.b] [.bool false])])
 (.seq (.join [] 262128 (some [⟨4, [.b], false⟩]) (.seq (.rg [o1 5 (.lit [.i .i64] [.int .i64 (0)])])
 (.block 0 (.loop [⟨5, [.i .i64], false⟩] 262128
  (.seq (.seq (.rg [o1 6 (.copy 5),
    o1 7 (.copy 0),
    o1 8 (.len 7),
    o1 9 (.data (.bin .lss) [.t 6, .t 8])])
  (.cond (.t 9)
   .skip
   (.exit 0)))
  (.seq (.block 1 (.seq (.rg [o1 12 (.copy 0),
    o1 13 (.copy 5),
    o1 14 (.index 12 (.t 13)),
    o1 15 (.load 12 [(0, 2)] 0 (.t 14) 2 false),
    o1 16 (.load 3 [] 0 .nil 2 false),
    o1 17 (.eqA [.i, .i] (.t 15) (.t 16) false)])
  (.cond (.t 17)
   (.seq (.rg [o1 4 (.lit [.b] [.bool true])])
   .ret)
   .skip)))
  (.rg [o1 10 (.copy 5),
    o1 11 (.data (.bin .add) [.t 10, .c (.int .i64 (1))]),
    o1 5 (.copy 11)])))))))
 (.seq (.rg [o1 4 (.lit [.b] [.bool false])])
 .ret)))
def s_sl05Has : Sig := ⟨[.rd false [.sl (.own none) [.d, .d]], .rd true [.d, .d]], (.one false [.d])⟩
noncomputable def E_sl05Has : TEnv := envOf []
noncomputable def f_sl05Has (n : Nat) : (List (Int × Int)) × (Int × Int) → Option ((Bool) × Unit) := runFn n E_sl05Has c_sl05Has [[.sl [.i .i64, .i .i64]], [.i .i64, .i .i64]] [.b] [] [4] .no
noncomputable def g_sl05Has := f_sl05Has BIG
noncomputable def p_sl05Has : TSp := ⟨s_sl05Has, [[.sl [.i .i64, .i .i64]], [.i .i64, .i .i64]], [.b], [], Ou.j .no, g_sl05Has⟩
theorem k_sl05Has : chkW PG E_sl05Has 112 s_sl05Has (c_sl05Has.ht 18) .no = some (c_sl05Has.wc E_sl05Has, [4]) := by kernel_rfl
theorem ok_sl05Has : p_sl05Has.Ok PG 112 := mkOk (env_nil PG) k_sl05Has (by kernel_rfl)
theorem e_sl05Has (n : Nat) (a0 : List (Int × Int)) (a1 : Int × Int) : f_sl05Has n (a0, a1) =
  Option.bind (loopT n (X := Int) (B := (Unit) ⊕ (Bool)) (fun self1 x0 =>
    bif decide (x0 < (a0.length : Int)) then
     bnd a0.length x0 fun n2 =>
     Option.bind a0[n2]? fun y3 =>
     bif (decide (y3.1 = a1.1) && (decide (y3.2 = a1.2) && true)) then
      some (Sum.inr true)
     else self1 (IntKind.wrap .i64 (x0 + (1 : Int)))
    else some (Sum.inl ())) (0 : Int) : Option ((Unit) ⊕ (Bool))) fun y => match y with
  | .inl x4 =>
   some (false, ())
  | .inr x4 =>
   some (x4, ()) := by kernel_rfl
/- spec.l12Say -/
def c_sl12Say_r : TC :=
 (.seq (.rg [o1 4 (.a (.t 1))])
 (.seq (.rg [o1 6 (.p0),
   o1 7 (.p0),
   o1 8 (.same 7),
   o1 9 (.idx (.t 8)),
   o1 10 (.load 0 [] 14 (.t 9) 1 true),
   o1 11 (.idx .nil),
   o1 12 (.load 4 [] 0 (.t 11) 1 false),
   o1 13 (.load 4 [] 0 .nil 4 false),
   o1 14 (.copy 2),
   o1 15 (.build [.i .i64, .i .i64, .i .i64, .i .i64, .i .i64, .i .i64] [(0, .t 12), (1, .t 13), (5, .t 14)]),
   o1 16 (.sli [.i .i64, .i .i64, .i .i64, .i .i64, .i .i64, .i .i64] [.t 15]),
   ⟨false, [10], [], .det 2 (.app (some 10) 16), [17, 10, 10, 0], (some 17), none⟩,
   o1 18 (.same 6),
   o1 19 (.idx (.t 18)),
   o4 2 [0, 17, 10] (.store 0 [] 14 (.t 19) (.t 17))])
 (.rg [o1 20 (.p0),
   o1 21 (.build [.i .i64, .i .i64, .i .i64, .i .i64, .i .i64, .i .i64, .i .i64, .sl [.i .i64, .i .i64], .i .i64] []),
   o1 22 (.same 20),
   o1 23 (.idx (.t 22)),
   o4 2 [0, 21] (.store 0 [] 5 (.t 23) (.t 21))])))
def s_sl12Say_r : Sig := ⟨[.mp [.d, .sl (.own none) [.d], .sl (.ro []) [.d, .d], .sl (.own none) [.sl (.own none) [.d]], .sl (.own none) [.d], .d, .d, .d, .d, .d, .d, .d, .sl (.own none) [.d, .d], .d, .sl (.own none) [.d, .d, .d, .d, .d, .d]], .rd true [.d, .d, .d, .d], .rd false [.d]], .u⟩
noncomputable def E_sl12Say_r : TEnv := envOf []
noncomputable def f_sl12Say_r (n : Nat) : (Int × List (Int) × List (Int × Int) × List (List (Int)) × List (Int) × Int × Int × Int × Int × Int × Int × Int × List (Int × Int) × Int × List (Int × Int × Int × Int × Int × Int)) × (Int × Int × Int × Int) × Int → Option ((Unit) × Int × List (Int) × List (Int × Int) × List (List (Int)) × List (Int) × Int × Int × Int × Int × Int × Int × Int × List (Int × Int) × Int × List (Int × Int × Int × Int × Int × Int)) := runFn n E_sl12Say_r c_sl12Say_r [[.i .i64, .sl [.i .i64], .sl [.i .i64, .i .i64], .sl [.sl [.i .i64]], .sl [.i .i64], .i .i64, .i .i64, .i .i64, .i .i64, .i .i64, .i .i64, .i .i64, .sl [.i .i64, .i .i64], .i .i64, .sl [.i .i64, .i .i64, .i .i64, .i .i64, .i .i64, .i .i64]], [.i .i64, .i .i64, .i .i64, .i .i64], [.i .i64]] [] [.i .i64, .sl [.i .i64], .sl [.i .i64, .i .i64], .sl [.sl [.i .i64]], .sl [.i .i64], .i .i64, .i .i64, .i .i64, .i .i64, .i .i64, .i .i64, .i .i64, .sl [.i .i64, .i .i64], .i .i64, .sl [.i .i64, .i .i64, .i .i64, .i .i64, .i .i64, .i .i64]] [] (.mp 0)
noncomputable def g_sl12Say_r := f_sl12Say_r BIG
noncomputable def p_sl12Say_r : TSp := ⟨s_sl12Say_r, [[.i .i64, .sl [.i .i64], .sl [.i .i64, .i .i64], .sl [.sl [.i .i64]], .sl [.i .i64], .i .i64, .i .i64, .i .i64, .i .i64, .i .i64, .i .i64, .i .i64, .sl [.i .i64, .i .i64], .i .i64, .sl [.i .i64, .i .i64, .i .i64, .i .i64, .i .i64, .i .i64]], [.i .i64, .i .i64, .i .i64, .i .i64], [.i .i64]], [], [.i .i64, .sl [.i .i64], .sl [.i .i64, .i .i64], .sl [.sl [.i .i64]], .sl [.i .i64], .i .i64, .i .i64, .i .i64, .i .i64, .i .i64, .i .i64, .i .i64, .sl [.i .i64, .i .i64], .i .i64, .sl [.i .i64, .i .i64, .i .i64, .i .i64, .i .i64, .i .i64]], Ou.j (.mp 0), g_sl12Say_r⟩
theorem k_sl12Say_r : chkW PG E_sl12Say_r 171 s_sl12Say_r (c_sl12Say_r.ht 24) (.mp 0) = some (c_sl12Say_r.wc E_sl12Say_r, []) := by kernel_rfl
theorem ok_sl12Say_r : p_sl12Say_r.Ok PG 171 := mkOk (env_nil PG) k_sl12Say_r (by kernel_rfl)
theorem e_sl12Say_r (n : Nat) (a0 : Int × List (Int) × List (Int × Int) × List ((List (Int))) × List (Int) × Int × Int × Int × Int × Int × Int × Int × List (Int × Int) × Int × List (Int × Int × Int × Int × Int × Int)) (a1 : Int × Int × Int × Int) (a2 : Int) : f_sl12Say_r n (a0, a1, a2) =
  bif decide (a0.2.2.2.2.2.2.2.2.2.2.2.2.2.2.length + ([(a1.1, a1.1, a1.2.1, a1.2.2.1, a1.2.2.2, a2)]).length ≤ 4294967296) then
   some ((), (a0.1, a0.2.1, a0.2.2.1, a0.2.2.2.1, a0.2.2.2.2.1, (0 : Int), (0 : Int), (0 : Int), (0 : Int), (0 : Int), (0 : Int), (0 : Int), [], (0 : Int), a0.2.2.2.2.2.2.2.2.2.2.2.2.2.2 ++ ([(a1.1, a1.1, a1.2.1, a1.2.2.1, a1.2.2.2, a2)])))
  else none := by kernel_rfl
/- spec.l05Put -/
def c_sl05Put : TC :=
 (.seq (.rg [o1 3 (.a (.t 1)),
   o1 4 (.lit [.sl [.i .i64, .i .i64]] [.slice none 0 0])])
 (.seq (.rg [o1 8 (.sli [.i .i64, .i .i64] []),
   ⟨false, [], [], .det 2 (.copy 8), [5, 8], (some 5), none⟩])
 (.seq (.join [⟨5, [.sl [.i .i64, .i .i64]], false⟩] 268435040 none (.seq (.rg [o1 6 (.lit [.i .i64] [.int .i64 (0)])])
 (.block 0 (.loop [⟨5, [.sl [.i .i64, .i .i64]], false⟩, ⟨6, [.i .i64], false⟩] 268435040
  (.seq (.seq (.rg [o1 9 (.copy 6),
    o1 10 (.copy 0),
    o1 11 (.len 10),
    o1 12 (.data (.bin .lss) [.t 9, .t 11])])
  (.cond (.t 12)
   .skip
   (.exit 0)))
  (.seq (.join [⟨5, [.sl [.i .i64, .i .i64]], false⟩] 268402720 none (.block 1 (.seq (.rg [o1 15 (.copy 0),
    o1 16 (.copy 6),
    o1 17 (.index 15 (.t 16)),
    o1 18 (.load 15 [(0, 2)] 0 (.t 17) 2 false),
    o1 19 (.load 3 [] 0 .nil 2 false),
    o3 20 305 [.t 18, .t 19]])
  (.cond (.t 20)
   (.rg [⟨false, [], [], .det 2 (.copy 5), [21, 5], (some 21), none⟩,
     o1 22 (.copy 0),
     o1 23 (.copy 6),
     o1 24 (.index 22 (.t 23)),
     o1 25 (.load 22 [(0, 2)] 0 (.t 24) 2 false),
     o1 26 (.sli [.i .i64, .i .i64] [.t 25]),
     ⟨false, [], [], .det 2 (.app (some 21) 26), [27, 21], (some 27), none⟩,
     ⟨false, [], [], .det 2 (.copy 27), [5, 27], (some 5), none⟩])
   .skip))))
  (.rg [o1 13 (.copy 6),
    o1 14 (.data (.bin .add) [.t 13, .c (.int .i64 (1))]),
    o1 6 (.copy 14)])))))))
 (.seq (.rg [⟨false, [], [], .det 2 (.copy 5), [28, 5], (some 28), none⟩,
   o1 29 (.load 3 [] 0 .nil 2 false),
   o1 30 (.sli [.i .i64, .i .i64] [.t 29]),
   ⟨false, [], [], .det 2 (.app (some 28) 30), [31, 28], (some 31), none⟩,
   ⟨false, [], [], .det 2 (.copy 31), [5, 31], (some 5), none⟩])
 (.seq (.join [⟨5, [.sl [.i .i64, .i .i64]], false⟩] 2251795518718112 none (.seq (.rg [o1 7 (.lit [.i .i64] [.int .i64 (0)])])
 (.block 2 (.loop [⟨5, [.sl [.i .i64, .i .i64]], false⟩, ⟨7, [.i .i64], false⟩] 2251795518718112
  (.seq (.seq (.rg [o1 32 (.copy 7),
    o1 33 (.copy 0),
    o1 34 (.len 33),
    o1 35 (.data (.bin .lss) [.t 32, .t 34])])
  (.cond (.t 35)
   .skip
   (.exit 2)))
  (.seq (.join [⟨5, [.sl [.i .i64, .i .i64]], false⟩] 2251524935778336 none (.block 3 (.seq (.rg [o1 38 (.load 3 [] 0 .nil 2 false),
    o1 39 (.copy 0),
    o1 40 (.copy 7),
    o1 41 (.index 39 (.t 40)),
    o1 42 (.load 39 [(0, 2)] 0 (.t 41) 2 false),
    o3 43 305 [.t 38, .t 42]])
  (.cond (.t 43)
   (.rg [⟨false, [], [], .det 2 (.copy 5), [44, 5], (some 44), none⟩,
     o1 45 (.copy 0),
     o1 46 (.copy 7),
     o1 47 (.index 45 (.t 46)),
     o1 48 (.load 45 [(0, 2)] 0 (.t 47) 2 false),
     o1 49 (.sli [.i .i64, .i .i64] [.t 48]),
     ⟨false, [], [], .det 2 (.app (some 44) 49), [50, 44], (some 50), none⟩,
     ⟨false, [], [], .det 2 (.copy 50), [5, 50], (some 5), none⟩])
   .skip))))
  (.rg [o1 36 (.copy 7),
    o1 37 (.data (.bin .add) [.t 36, .c (.int .i64 (1))]),
    o1 7 (.copy 37)])))))))
 (.seq (.rg [⟨false, [], [], .det 2 (.copy 5), [51, 5], (some 51), none⟩,
   ⟨false, [], [], .det 2 (.copy 51), [4, 51], (some 4), none⟩])
 .ret))))))
def s_sl05Put : Sig := ⟨[.rd false [.sl (.own none) [.d, .d]], .rd true [.d, .d]], (.one false [.sl (.own none) [.d, .d]])⟩
noncomputable def E_sl05Put : TEnv := envOf [(305, p_sl05Less)]
noncomputable def f_sl05Put (n : Nat) : (List (Int × Int)) × (Int × Int) → Option ((List (Int × Int)) × Unit) := runFn n E_sl05Put c_sl05Put [[.sl [.i .i64, .i .i64]], [.i .i64, .i .i64]] [.sl [.i .i64, .i .i64]] [] [4] .no
noncomputable def g_sl05Put := f_sl05Put BIG
noncomputable def p_sl05Put : TSp := ⟨s_sl05Put, [[.sl [.i .i64, .i .i64]], [.i .i64, .i .i64]], [.sl [.i .i64, .i .i64]], [], Ou.j .no, g_sl05Put⟩
theorem k_sl05Put : chkW PG E_sl05Put 231 s_sl05Put (c_sl05Put.ht 52) .no = some (c_sl05Put.wc E_sl05Put, [4]) := by kernel_rfl
theorem ok_sl05Put : p_sl05Put.Ok PG 231 := mkOk (env_cons ok_sl05Less (env_nil PG)) k_sl05Put (by kernel_rfl)
theorem e_sl05Put (n : Nat) (a0 : List (Int × Int)) (a1 : Int × Int) : f_sl05Put n (a0, a1) =
  Option.bind (loopT n (X := (List (Int × Int)) × Int) (B := (List (Int × Int))) (fun self1 x0 =>
    bif decide (x0.2 < (a0.length : Int)) then
     Option.bind (bnd a0.length x0.2 fun n2 =>
      Option.bind a0[n2]? fun y3 =>
      Option.bind (g_sl05Less (y3, a1)) fun r4 =>
      bif r4.1 then
       bnd a0.length x0.2 fun n5 =>
       Option.bind a0[n5]? fun y6 =>
       bif decide (x0.1.length + [y6].length ≤ 4294967296) then
        some (x0.1 ++ [y6])
       else none
      else some x0.1 : Option ((List (Int × Int)))) fun x7 =>
     self1 (x7, IntKind.wrap .i64 (x0.2 + (1 : Int)))
    else some x0.1) ([], (0 : Int)) : Option ((List (Int × Int)))) fun x8 =>
  bif decide (x8.length + [a1].length ≤ 4294967296) then
   Option.bind (loopT n (X := (List (Int × Int)) × Int) (B := (List (Int × Int))) (fun self10 x9 =>
     bif decide (x9.2 < (a0.length : Int)) then
      Option.bind (bnd a0.length x9.2 fun n11 =>
       Option.bind a0[n11]? fun y12 =>
       Option.bind (g_sl05Less (a1, y12)) fun r13 =>
       bif r13.1 then
        bnd a0.length x9.2 fun n14 =>
        Option.bind a0[n14]? fun y15 =>
        bif decide (x9.1.length + [y15].length ≤ 4294967296) then
         some (x9.1 ++ [y15])
        else none
       else some x9.1 : Option ((List (Int × Int)))) fun x16 =>
      self10 (x16, IntKind.wrap .i64 (x9.2 + (1 : Int)))
     else some x9.1) (x8 ++ [a1], (0 : Int)) : Option ((List (Int × Int)))) fun x17 =>
   some (x17, ())
  else none := by kernel_rfl
/- spec.Inside -/
def c_sInside : TC :=
 (.seq (.rg [o1 6 (.lit [.sl [.i .i64, .i .i64]] [.slice none 0 0])])
 (.seq (.rg [o1 10 (.sli [.i .i64, .i .i64] []),
   ⟨false, [], [], .det 2 (.copy 10), [7, 10], (some 7), none⟩])
 (.seq (.join [⟨7, [.sl [.i .i64, .i .i64]], false⟩] 144115188075854720 none (.seq (.rg [o1 8 (.lit [.i .i64] [.int .i64 (0)])])
 (.block 0 (.loop [⟨7, [.sl [.i .i64, .i .i64]], false⟩, ⟨8, [.i .i64], false⟩] 144115188075854720
  (.seq (.seq (.rg [o1 11 (.copy 8),
    o1 12 (.copy 1),
    o1 13 (.len 12),
    o1 14 (.data (.bin .lss) [.t 11, .t 13])])
  (.cond (.t 14)
   .skip
   (.exit 0)))
  (.seq (.join [⟨7, [.sl [.i .i64, .i .i64]], false⟩] 144115188075725440 none (.block 1 (.seq (.rg [o1 17 (.copy 1),
    o1 18 (.copy 8),
    o1 19 (.index 17 (.t 18)),
    o1 20 (.load 17 [(0, 2)] 0 (.t 19) 2 false),
    ⟨false, [], [], .det 2 (.a (.c [.i .i64, .i .i64] [.int .i64 (0), .int .i64 (0)])), [9, 1000000001], (some 9), none⟩,
    o4 1 [9] (.store 9 [] 0 .nil (.t 20))])
  (.seq (.join [⟨52, [.b], false⟩] 9007199252643840 none (.rg [o1 21 (.idx .nil),
    o1 22 (.load 9 [] 0 (.t 21) 1 false),
    o1 23 (.copy 0),
    o1 24 (.len 23),
    o1 25 (.data (.bin .sub) [.t 24, .c (.int .i64 (1))]),
    o3 26 98 [.t 22, .c [.i .i64] [.int .i64 (0)], .t 25],
    o1 27 (.copy 26),
    o2 28 (.idx .nil) 6 true,
    o2 29 (.load 9 [] 1 (.t 28) 1 false) 6 true,
    o2 30 (.copy 0) 6 true,
    o2 31 (.len 30) 6 true,
    o2 32 (.data (.bin .sub) [.t 31, .c (.int .i64 (1))]) 6 true,
    ⟨false, [], [], .call 1 98 [.t 29, .c [.i .i64] [.int .i64 (0)], .t 32] .no, [33], (some 33), some (6, true)⟩,
    ⟨false, [], [], .pick 27 (.t 33) (.c (.bool false)), [34], (some 34), none⟩,
    o1 35 (.copy 34),
    o2 36 (.copy 0) 14 true,
    o2 37 (.idx .nil) 14 true,
    o2 38 (.load 9 [] 0 (.t 37) 1 false) 14 true,
    o2 39 (.index 36 (.t 38)) 14 true,
    o2 40 (.load 36 [(0, 1)] 0 (.t 39) 1 false) 14 true,
    o2 41 (.copy 2) 14 true,
    o2 42 (.data (.bin .eql) [.t 40, .t 41]) 14 true,
    ⟨false, [], [], .pick 35 (.t 42) (.c (.bool false)), [43], (some 43), none⟩,
    o1 44 (.copy 43),
    o2 45 (.copy 0) 23 true,
    o2 46 (.idx .nil) 23 true,
    o2 47 (.load 9 [] 1 (.t 46) 1 false) 23 true,
    o2 48 (.index 45 (.t 47)) 23 true,
    o2 49 (.load 45 [(0, 1)] 0 (.t 48) 1 false) 23 true,
    o2 50 (.copy 2) 23 true,
    o2 51 (.data (.bin .eql) [.t 49, .t 50]) 23 true,
    ⟨false, [], [], .pick 44 (.t 51) (.c (.bool false)), [52], (some 52), none⟩]))
  (.cond (.t 52)
   (.rg [⟨false, [], [], .det 2 (.copy 7), [53, 7], (some 53), none⟩,
     o1 54 (.load 9 [] 0 .nil 2 false),
     o1 55 (.sli [.i .i64, .i .i64] [.t 54]),
     ⟨false, [], [], .det 2 (.app (some 53) 55), [56, 53], (some 56), none⟩,
     ⟨false, [], [], .det 2 (.copy 56), [7, 56], (some 7), none⟩])
   .skip)))))
  (.rg [o1 15 (.copy 8),
    o1 16 (.data (.bin .add) [.t 15, .c (.int .i64 (1))]),
    o1 8 (.copy 16)])))))))
 (.seq (.rg [⟨false, [], [], .det 2 (.copy 7), [57, 7], (some 57), none⟩,
   ⟨false, [], [], .det 2 (.copy 57), [6, 57], (some 6), none⟩])
 .ret))))
def s_sInside : Sig := ⟨[.rd false [.sl (.own none) [.d]], .rd false [.sl (.own none) [.d, .d]], .rd false [.d]], (.one false [.sl (.own none) [.d, .d]])⟩
noncomputable def E_sInside : TEnv := envOf [(98, p_sl01In)]
noncomputable def f_sInside (n : Nat) : List (Int) × (List (Int × Int)) × Int → Option ((List (Int × Int)) × Unit) := runFn n E_sInside c_sInside [[.sl [.i .i64]], [.sl [.i .i64, .i .i64]], [.i .i64]] [.sl [.i .i64, .i .i64]] [] [6] .no
noncomputable def g_sInside := f_sInside BIG
noncomputable def p_sInside : TSp := ⟨s_sInside, [[.sl [.i .i64]], [.sl [.i .i64, .i .i64]], [.i .i64]], [.sl [.i .i64, .i .i64]], [], Ou.j .no, g_sInside⟩
theorem k_sInside : chkW PG E_sInside 20 s_sInside (c_sInside.ht 58) .no = some (c_sInside.wc E_sInside, [6]) := by kernel_rfl
theorem ok_sInside : p_sInside.Ok PG 20 := mkOk (env_cons ok_sl01In (env_nil PG)) k_sInside (by kernel_rfl)
theorem e_sInside (n : Nat) (a0 : List (Int)) (a1 : List (Int × Int)) (a2 : Int) : f_sInside n (a0, a1, a2) =
  Option.bind (loopT n (X := (List (Int × Int)) × Int) (B := (List (Int × Int))) (fun self1 x0 =>
    bif decide (x0.2 < (a1.length : Int)) then
     Option.bind (bnd a1.length x0.2 fun n2 =>
      Option.bind a1[n2]? fun y3 =>
      Option.bind (Option.bind (g_sl01In (y3.1, (0 : Int), IntKind.wrap .i64 ((a0.length : Int) - (1 : Int)))) fun r4 =>
       bif r4.1 then
        Option.bind (g_sl01In (y3.2, (0 : Int), IntKind.wrap .i64 ((a0.length : Int) - (1 : Int)))) fun r5 =>
        bif r5.1 then
         bnd a0.length y3.1 fun n6 =>
         Option.bind a0[n6]? fun y7 =>
         bif decide (y7 = a2) then
          bnd a0.length y3.2 fun n8 =>
          Option.bind a0[n8]? fun y9 =>
          some (decide (y9 = a2))
         else some false
        else some false
       else some false : Option (Bool)) fun x10 =>
      bif x10 then
       bif decide (x0.1.length + [y3].length ≤ 4294967296) then
        some (x0.1 ++ [y3])
       else none
      else some x0.1 : Option ((List (Int × Int)))) fun x11 =>
     self1 (x11, IntKind.wrap .i64 (x0.2 + (1 : Int)))
    else some x0.1) ([], (0 : Int)) : Option ((List (Int × Int)))) fun x12 =>
  some (x12, ()) := by kernel_rfl
/- spec.l05Without -/
def c_sl05Without : TC :=
 (.seq (.rg [o1 3 (.a (.t 1)),
   o1 4 (.lit [.sl [.i .i64, .i .i64]] [.slice none 0 0])])
 (.seq (.rg [o1 7 (.sli [.i .i64, .i .i64] []),
   ⟨false, [], [], .det 2 (.copy 7), [5, 7], (some 5), none⟩])
 (.seq (.join [⟨5, [.sl [.i .i64, .i .i64]], false⟩] 134217568 none (.seq (.rg [o1 6 (.lit [.i .i64] [.int .i64 (0)])])
 (.block 0 (.loop [⟨5, [.sl [.i .i64, .i .i64]], false⟩, ⟨6, [.i .i64], false⟩] 134217568
  (.seq (.seq (.rg [o1 8 (.copy 6),
    o1 9 (.copy 0),
    o1 10 (.len 9),
    o1 11 (.data (.bin .lss) [.t 8, .t 10])])
  (.cond (.t 11)
   .skip
   (.exit 0)))
  (.seq (.join [⟨5, [.sl [.i .i64, .i .i64]], false⟩] 134201376 none (.block 1 (.seq (.rg [o1 14 (.copy 0),
    o1 15 (.copy 6),
    o1 16 (.index 14 (.t 15)),
    o1 17 (.load 14 [(0, 2)] 0 (.t 16) 2 false),
    o1 18 (.load 3 [] 0 .nil 2 false),
    o1 19 (.eqA [.i, .i] (.t 17) (.t 18) true)])
  (.cond (.t 19)
   (.rg [⟨false, [], [], .det 2 (.copy 5), [20, 5], (some 20), none⟩,
     o1 21 (.copy 0),
     o1 22 (.copy 6),
     o1 23 (.index 21 (.t 22)),
     o1 24 (.load 21 [(0, 2)] 0 (.t 23) 2 false),
     o1 25 (.sli [.i .i64, .i .i64] [.t 24]),
     ⟨false, [], [], .det 2 (.app (some 20) 25), [26, 20], (some 26), none⟩,
     ⟨false, [], [], .det 2 (.copy 26), [5, 26], (some 5), none⟩])
   .skip))))
  (.rg [o1 12 (.copy 6),
    o1 13 (.data (.bin .add) [.t 12, .c (.int .i64 (1))]),
    o1 6 (.copy 13)])))))))
 (.seq (.rg [⟨false, [], [], .det 2 (.copy 5), [27, 5], (some 27), none⟩,
   ⟨false, [], [], .det 2 (.copy 27), [4, 27], (some 4), none⟩])
 .ret))))
def s_sl05Without : Sig := ⟨[.rd false [.sl (.own none) [.d, .d]], .rd true [.d, .d]], (.one false [.sl (.own none) [.d, .d]])⟩
noncomputable def E_sl05Without : TEnv := envOf []
noncomputable def f_sl05Without (n : Nat) : (List (Int × Int)) × (Int × Int) → Option ((List (Int × Int)) × Unit) := runFn n E_sl05Without c_sl05Without [[.sl [.i .i64, .i .i64]], [.i .i64, .i .i64]] [.sl [.i .i64, .i .i64]] [] [4] .no
noncomputable def g_sl05Without := f_sl05Without BIG
noncomputable def p_sl05Without : TSp := ⟨s_sl05Without, [[.sl [.i .i64, .i .i64]], [.i .i64, .i .i64]], [.sl [.i .i64, .i .i64]], [], Ou.j .no, g_sl05Without⟩
theorem k_sl05Without : chkW PG E_sl05Without 283 s_sl05Without (c_sl05Without.ht 28) .no = some (c_sl05Without.wc E_sl05Without, [4]) := by kernel_rfl
theorem ok_sl05Without : p_sl05Without.Ok PG 283 := mkOk (env_nil PG) k_sl05Without (by kernel_rfl)
theorem e_sl05Without (n : Nat) (a0 : List (Int × Int)) (a1 : Int × Int) : f_sl05Without n (a0, a1) =
  Option.bind (loopT n (X := (List (Int × Int)) × Int) (B := (List (Int × Int))) (fun self1 x0 =>
    bif decide (x0.2 < (a0.length : Int)) then
     Option.bind (bnd a0.length x0.2 fun n2 =>
      Option.bind a0[n2]? fun y3 =>
      bif !(decide (y3.1 = a1.1) && (decide (y3.2 = a1.2) && true)) then
       bnd a0.length x0.2 fun n4 =>
       Option.bind a0[n4]? fun y5 =>
       bif decide (x0.1.length + [y5].length ≤ 4294967296) then
        some (x0.1 ++ [y5])
       else none
      else some x0.1 : Option ((List (Int × Int)))) fun x6 =>
     self1 (x6, IntKind.wrap .i64 (x0.2 + (1 : Int)))
    else some x0.1) ([], (0 : Int)) : Option ((List (Int × Int)))) fun x7 =>
  some (x7, ()) := by kernel_rfl
/- spec.l12Task -/
def c_sl12Task_r : TC :=
 (.seq (.rg [o1 5 (.a (.t 1)),
   ⟨false, [], [], .det 2 (.a (.t 3)), [7, 3], (some 7), none⟩,
   o1 8 (.lit [.i .i64] [.int .i64 (0)])])
 (.seq (.rg [o1 9 (.p0),
   o1 10 (.same 9),
   o1 11 (.idx (.t 10)),
   o1 12 (.load 0 [] 4 (.t 11) 1 true),
   o1 13 (.copy 2),
   o1 14 (.data (.bin .sub) [.t 13, .c (.int .i64 (1))]),
   o1 15 (.index 12 (.t 14)),
   o1 16 (.load 0 [(4, 1)] 0 (.t 15) 1 false),
   o1 17 (.data (.bin .add) [.t 16, .c (.int .i64 (1))]),
   o1 18 (.idx .nil),
   o4 1 [7] (.store 7 [] 0 (.t 18) (.t 17))])
 (.seq (.rg [o1 19 (.p0),
   o1 20 (.load 5 [] 0 .nil 4 false),
   o1 21 (.copy 2),
   o1 22 (.load 7 [] 0 .nil 4 true),
   ⟨false, [22], [], .det 2 (.build [.i .i64, .i .i64, .i .i64, .i .i64, .i .i64, .i .i64, .i .i64, .sl [.i .i64, .i .i64], .i .i64] [(0, .t 20), (4, .t 21), (5, .t 22)]), [23, 22, 22, 7], (some 23), none⟩,
   o1 24 (.same 19),
   o1 25 (.idx (.t 24)),
   o4 2 [0, 23, 12, 15] (.store 0 [] 5 (.t 25) (.t 23))])
 (.seq (.rg [o1 8 (.lit [.i .i64] [.int .i64 (2)])])
 .ret))))
def s_sl12Task_r : Sig := ⟨[.mp [.d, .sl (.own none) [.d], .sl (.ro []) [.d, .d], .sl (.own none) [.sl (.own none) [.d]], .sl (.own none) [.d], .d, .d, .d, .d, .d, .d, .d, .sl (.own none) [.d, .d], .d, .sl (.own none) [.d, .d, .d, .d, .d, .d]], .rd true [.d, .d, .d, .d], .rd false [.d], .tk true [.d, .d, .sl (.own none) [.d, .d], .d]], (.one false [.d])⟩
noncomputable def E_sl12Task_r : TEnv := envOf []
noncomputable def f_sl12Task_r (n : Nat) : (Int × List (Int) × List (Int × Int) × List (List (Int)) × List (Int) × Int × Int × Int × Int × Int × Int × Int × List (Int × Int) × Int × List (Int × Int × Int × Int × Int × Int)) × (Int × Int × Int × Int) × Int × (Int × Int × List (Int × Int) × Int) → Option ((Int) × Int × List (Int) × List (Int × Int) × List (List (Int)) × List (Int) × Int × Int × Int × Int × Int × Int × Int × List (Int × Int) × Int × List (Int × Int × Int × Int × Int × Int)) := runFn n E_sl12Task_r c_sl12Task_r [[.i .i64, .sl [.i .i64], .sl [.i .i64, .i .i64], .sl [.sl [.i .i64]], .sl [.i .i64], .i .i64, .i .i64, .i .i64, .i .i64, .i .i64, .i .i64, .i .i64, .sl [.i .i64, .i .i64], .i .i64, .sl [.i .i64, .i .i64, .i .i64, .i .i64, .i .i64, .i .i64]], [.i .i64, .i .i64, .i .i64, .i .i64], [.i .i64], [.i .i64, .i .i64, .sl [.i .i64, .i .i64], .i .i64]] [.i .i64] [.i .i64, .sl [.i .i64], .sl [.i .i64, .i .i64], .sl [.sl [.i .i64]], .sl [.i .i64], .i .i64, .i .i64, .i .i64, .i .i64, .i .i64, .i .i64, .i .i64, .sl [.i .i64, .i .i64], .i .i64, .sl [.i .i64, .i .i64, .i .i64, .i .i64, .i .i64, .i .i64]] [8] (.mp 0)
noncomputable def g_sl12Task_r := f_sl12Task_r BIG
noncomputable def p_sl12Task_r : TSp := ⟨s_sl12Task_r, [[.i .i64, .sl [.i .i64], .sl [.i .i64, .i .i64], .sl [.sl [.i .i64]], .sl [.i .i64], .i .i64, .i .i64, .i .i64, .i .i64, .i .i64, .i .i64, .i .i64, .sl [.i .i64, .i .i64], .i .i64, .sl [.i .i64, .i .i64, .i .i64, .i .i64, .i .i64, .i .i64]], [.i .i64, .i .i64, .i .i64, .i .i64], [.i .i64], [.i .i64, .i .i64, .sl [.i .i64, .i .i64], .i .i64]], [.i .i64], [.i .i64, .sl [.i .i64], .sl [.i .i64, .i .i64], .sl [.sl [.i .i64]], .sl [.i .i64], .i .i64, .i .i64, .i .i64, .i .i64, .i .i64, .i .i64, .i .i64, .sl [.i .i64, .i .i64], .i .i64, .sl [.i .i64, .i .i64, .i .i64, .i .i64, .i .i64, .i .i64]], Ou.j (.mp 0), g_sl12Task_r⟩
theorem k_sl12Task_r : chkW PG E_sl12Task_r 194 s_sl12Task_r (c_sl12Task_r.ht 26) (.mp 0) = some (c_sl12Task_r.wc E_sl12Task_r, [8]) := by kernel_rfl
theorem ok_sl12Task_r : p_sl12Task_r.Ok PG 194 := mkOk (env_nil PG) k_sl12Task_r (by kernel_rfl)
theorem e_sl12Task_r (n : Nat) (a0 : Int × List (Int) × List (Int × Int) × List ((List (Int))) × List (Int) × Int × Int × Int × Int × Int × Int × Int × List (Int × Int) × Int × List (Int × Int × Int × Int × Int × Int)) (a1 : Int × Int × Int × Int) (a2 : Int) (a3 : Int × Int × List (Int × Int) × Int) : f_sl12Task_r n (a0, a1, a2, a3) =
  bnd a0.2.2.2.2.1.length (IntKind.wrap .i64 (a2 - (1 : Int))) fun n0 =>
  Option.bind a0.2.2.2.2.1[n0]? fun y1 =>
  some ((2 : Int), (a0.1, a0.2.1, a0.2.2.1, a0.2.2.2.1, a0.2.2.2.2.1, a1.1, a1.2.1, a1.2.2.1, a1.2.2.2, a2, IntKind.wrap .i64 (y1 + (1 : Int)), a3.2.1, a3.2.2.1, a3.2.2.2, a0.2.2.2.2.2.2.2.2.2.2.2.2.2.2)) := by kernel_rfl
/- spec.l12Moved -/
def c_sl12Moved : TC :=
 (.seq (.rg [o1 4 (.a (.t 1)),
   o1 6 (.lit [.i .i64] [.int .i64 (0)])])
 (.seq (.rg [o1 11 (.p0),
   o1 12 (.same 11),
   o1 13 (.idx (.t 12)),
   o1 14 (.load 0 [] 2 (.t 13) 1 false),
   o1 7 (.copy 14)])
 (.seq (.join [⟨0, [.i .i64, .sl [.i .i64], .sl [.i .i64, .i .i64], .sl [.sl [.i .i64]], .sl [.i .i64], .i .i64, .i .i64, .i .i64, .i .i64, .i .i64, .i .i64, .i .i64, .sl [.i .i64, .i .i64], .i .i64, .sl [.i .i64, .i .i64, .i .i64, .i .i64, .i .i64, .i .i64]], false⟩, ⟨7, [.sl [.i .i64, .i .i64]], false⟩] 68719444417 (some [⟨6, [.i .i64], false⟩, ⟨0, [.i .i64, .sl [.i .i64], .sl [.i .i64, .i .i64], .sl [.sl [.i .i64]], .sl [.i .i64], .i .i64, .i .i64, .i .i64, .i .i64, .i .i64, .i .i64, .i .i64, .sl [.i .i64, .i .i64], .i .i64, .sl [.i .i64, .i .i64, .i .i64, .i .i64, .i .i64, .i .i64]], false⟩]) (.seq (.rg [o1 8 (.lit [.i .i64] [.int .i64 (0)])])
 (.block 0 (.loop [⟨0, [.i .i64, .sl [.i .i64], .sl [.i .i64, .i .i64], .sl [.sl [.i .i64]], .sl [.i .i64], .i .i64, .i .i64, .i .i64, .i .i64, .i .i64, .i .i64, .i .i64, .sl [.i .i64, .i .i64], .i .i64, .sl [.i .i64, .i .i64, .i .i64, .i .i64, .i .i64, .i .i64]], false⟩, ⟨7, [.sl [.i .i64, .i .i64]], false⟩, ⟨8, [.i .i64], false⟩] 68719444417
  (.seq (.seq (.rg [o1 15 (.copy 8),
    o1 16 (.copy 2),
    o1 17 (.len 16),
    o1 18 (.data (.bin .lss) [.t 15, .t 17])])
  (.cond (.t 18)
   .skip
   (.exit 0)))
  (.seq (.block 1 (.seq (.seq (.rg [o1 21 (.copy 7),
    o1 22 (.copy 2),
    o1 23 (.copy 8),
    o1 24 (.index 22 (.t 23)),
    o1 25 (.load 22 [(0, 2)] 0 (.t 24) 2 false),
    o3 26 112 [.t 21, .t 25]])
  (.cond (.t 26)
   (.seq (.rg [o1 27 (.p0),
     o1 28 (.load 4 [] 0 .nil 4 false),
     ⟨false, [], [], .call 2 171 [.t 0, .t 28, .c [.i .i64] [.int .i64 (3)]] (.mp 0), [29, 0], (some 29), none⟩])
   (.seq (.rg [o1 6 (.lit [.i .i64] [.int .i64 (1)])])
   .ret))
   .skip))
  (.rg [o1 30 (.copy 7),
    o1 31 (.copy 2),
    o1 32 (.copy 8),
    o1 33 (.index 31 (.t 32)),
    o1 34 (.load 31 [(0, 2)] 0 (.t 33) 2 false),
    o3 35 231 [.t 30, .t 34],
    ⟨false, [35], [], .det 1 (.copy 35), [7, 35], (some 7), none⟩])))
  (.rg [o1 19 (.copy 8),
    o1 20 (.data (.bin .add) [.t 19, .c (.int .i64 (1))]),
    o1 8 (.copy 20)])))))))
 (.seq (.rg [o1 36 (.p0),
   o1 37 (.same 36),
   o1 38 (.idx (.t 37)),
   o1 39 (.load 0 [] 1 (.t 38) 1 true),
   o1 40 (.idx .nil),
   o1 41 (.load 4 [] 2 (.t 40) 1 false),
   o1 42 (.idx .nil),
   o1 43 (.load 4 [] 3 (.t 42) 1 false),
   o1 44 (.index 39 (.t 41)),
   o4 1 [0, 39] (.store 0 [(1, 1)] 0 (.t 44) (.t 43))])
 (.seq (.rg [o1 45 (.p0),
   o1 46 (.same 45),
   o1 47 (.idx (.t 46)),
   o1 48 (.load 0 [] 1 (.t 47) 1 true),
   o1 49 (.copy 7),
   o1 50 (.idx .nil),
   o1 51 (.load 4 [] 3 (.t 50) 1 false),
   o3 52 20 [.t 48, .t 49, .t 51],
   ⟨false, [], [], .det 2 (.copy 52), [9, 52], (some 9), none⟩])
 (.seq (.join [⟨7, [.sl [.i .i64, .i .i64]], false⟩] 36884480948164363392 none (.seq (.rg [o1 10 (.lit [.i .i64] [.int .i64 (0)])])
 (.block 2 (.loop [⟨7, [.sl [.i .i64, .i .i64]], false⟩, ⟨10, [.i .i64], false⟩] 36884480948164363392
  (.seq (.seq (.rg [o1 53 (.copy 10),
    ⟨true, [], [], .det 1 (.copy 9), [54], (some 54), none⟩,
    o1 55 (.len 54),
    o1 56 (.data (.bin .lss) [.t 53, .t 55])])
  (.cond (.t 56)
   .skip
   (.exit 2)))
  (.seq (.block 3 (.rg [o1 59 (.copy 7),
    ⟨true, [], [], .det 1 (.copy 9), [60], (some 60), none⟩,
    o1 61 (.copy 10),
    o1 62 (.index 60 (.t 61)),
    o1 63 (.load 9 [(0, 2)] 0 (.t 62) 2 false),
    o3 64 283 [.t 59, .t 63],
    ⟨false, [64], [], .det 1 (.copy 64), [7, 64], (some 7), none⟩]))
  (.rg [o1 57 (.copy 10),
    o1 58 (.data (.bin .add) [.t 57, .c (.int .i64 (1))]),
    o1 10 (.copy 58)])))))))
 (.seq (.rg [o1 65 (.p0),
   o1 66 (.copy 7),
   o1 67 (.same 65),
   o1 68 (.idx (.t 67)),
   o4 1 [0, 44, 48] (.store 0 [] 2 (.t 68) (.t 66))])
 (.seq (.seq (.rg [⟨true, [], [], .det 1 (.copy 9), [69], (some 69), none⟩,
   o1 70 (.len 69),
   o1 71 (.data (.bin .eql) [.t 70, .c (.int .i64 (0))])])
 (.cond (.t 71)
  (.seq (.rg [o1 72 (.p0),
    o1 73 (.load 4 [] 0 .nil 4 false),
    ⟨false, [], [], .call 2 171 [.t 0, .t 73, .c [.i .i64] [.int .i64 (1)]] (.mp 0), [74, 0], (some 74), none⟩])
  (.seq (.rg [o1 6 (.lit [.i .i64] [.int .i64 (1)])])
  .ret))
  .skip))
 (.seq (.rg [o1 75 (.p0),
   o1 76 (.load 4 [] 0 .nil 4 false),
   o1 77 (.idx .nil),
   o1 78 (.load 4 [] 3 (.t 77) 1 false),
   ⟨false, [], [], .det 2 (.copy 9), [79, 9, 54, 69], (some 79), none⟩,
   ⟨false, [], [], .det 3 (.build [.i .i64, .i .i64, .sl [.i .i64, .i .i64], .i .i64] [(1, .c [.i .i64] [.int .i64 (4)]), (2, .t 79)]), [80, 1000000002, 79], (some 80), none⟩,
   ⟨false, [], [], .call 3 194 [.t 0, .t 76, .t 78, .t 80] (.mp 0), [81, 0, 80], (some 81), none⟩,
   o1 6 (.copy 81)])
 .ret)))))))))
def s_sl12Moved : Sig := ⟨[.mp [.d, .sl (.own none) [.d], .sl (.ro []) [.d, .d], .sl (.own none) [.sl (.own none) [.d]], .sl (.own none) [.d], .d, .d, .d, .d, .d, .d, .d, .sl (.own none) [.d, .d], .d, .sl (.own none) [.d, .d, .d, .d, .d, .d]], .rd true [.d, .d, .d, .d], .rd false [.sl (.own none) [.d, .d]]], (.one false [.d])⟩
noncomputable def E_sl12Moved : TEnv := envOf [(112, p_sl05Has), (171, p_sl12Say_r), (231, p_sl05Put), (20, p_sInside), (283, p_sl05Without), (194, p_sl12Task_r)]
noncomputable def f_sl12Moved (n : Nat) : (Int × List (Int) × List (Int × Int) × List (List (Int)) × List (Int) × Int × Int × Int × Int × Int × Int × Int × List (Int × Int) × Int × List (Int × Int × Int × Int × Int × Int)) × (Int × Int × Int × Int) × (List (Int × Int)) → Option ((Int) × Int × List (Int) × List (Int × Int) × List (List (Int)) × List (Int) × Int × Int × Int × Int × Int × Int × Int × List (Int × Int) × Int × List (Int × Int × Int × Int × Int × Int)) := runFn n E_sl12Moved c_sl12Moved [[.i .i64, .sl [.i .i64], .sl [.i .i64, .i .i64], .sl [.sl [.i .i64]], .sl [.i .i64], .i .i64, .i .i64, .i .i64, .i .i64, .i .i64, .i .i64, .i .i64, .sl [.i .i64, .i .i64], .i .i64, .sl [.i .i64, .i .i64, .i .i64, .i .i64, .i .i64, .i .i64]], [.i .i64, .i .i64, .i .i64, .i .i64], [.sl [.i .i64, .i .i64]]] [.i .i64] [.i .i64, .sl [.i .i64], .sl [.i .i64, .i .i64], .sl [.sl [.i .i64]], .sl [.i .i64], .i .i64, .i .i64, .i .i64, .i .i64, .i .i64, .i .i64, .i .i64, .sl [.i .i64, .i .i64], .i .i64, .sl [.i .i64, .i .i64, .i .i64, .i .i64, .i .i64, .i .i64]] [6] (.mp 0)
noncomputable def g_sl12Moved := f_sl12Moved BIG
noncomputable def p_sl12Moved : TSp := ⟨s_sl12Moved, [[.i .i64, .sl [.i .i64], .sl [.i .i64, .i .i64], .sl [.sl [.i .i64]], .sl [.i .i64], .i .i64, .i .i64, .i .i64, .i .i64, .i .i64, .i .i64, .i .i64, .sl [.i .i64, .i .i64], .i .i64, .sl [.i .i64, .i .i64, .i .i64, .i .i64, .i .i64, .i .i64]], [.i .i64, .i .i64, .i .i64, .i .i64], [.sl [.i .i64, .i .i64]]], [.i .i64], [.i .i64, .sl [.i .i64], .sl [.i .i64, .i .i64], .sl [.sl [.i .i64]], .sl [.i .i64], .i .i64, .i .i64, .i .i64, .i .i64, .i .i64, .i .i64, .i .i64, .sl [.i .i64, .i .i64], .i .i64, .sl [.i .i64, .i .i64, .i .i64, .i .i64, .i .i64, .i .i64]], Ou.j (.mp 0), g_sl12Moved⟩
theorem k_sl12Moved : chkW PG E_sl12Moved 170 s_sl12Moved (c_sl12Moved.ht 82) (.mp 0) = some (c_sl12Moved.wc E_sl12Moved, [6]) := by kernel_rfl
theorem ok_sl12Moved : p_sl12Moved.Ok PG 170 := mkOk (env_cons ok_sl05Has (env_cons ok_sl12Say_r (env_cons ok_sl05Put (env_cons ok_sInside (env_cons ok_sl05Without (env_cons ok_sl12Task_r (env_nil PG))))))) k_sl12Moved (by kernel_rfl)
theorem e_sl12Moved (n : Nat) (a0 : Int × List (Int) × List (Int × Int) × List ((List (Int))) × List (Int) × Int × Int × Int × Int × Int × Int × Int × List (Int × Int) × Int × List (Int × Int × Int × Int × Int × Int)) (a1 : Int × Int × Int × Int) (a2 : List (Int × Int)) : f_sl12Moved n (a0, a1, a2) =
  Option.bind (loopT n (X := (Int × List (Int) × List (Int × Int) × List ((List (Int))) × List (Int) × Int × Int × Int × Int × Int × Int × Int × List (Int × Int) × Int × List (Int × Int × Int × Int × Int × Int)) × (List (Int × Int)) × Int) (B := ((Int × List (Int) × List (Int × Int) × List ((List (Int))) × List (Int) × Int × Int × Int × Int × Int × Int × Int × List (Int × Int) × Int × List (Int × Int × Int × Int × Int × Int)) × (List (Int × Int))) ⊕ (Int × (Int × List (Int) × List (Int × Int) × List ((List (Int))) × List (Int) × Int × Int × Int × Int × Int × Int × Int × List (Int × Int) × Int × List (Int × Int × Int × Int × Int × Int)))) (fun self1 x0 =>
    bif decide (x0.2.2 < (a2.length : Int)) then
     bnd a2.length x0.2.2 fun n2 =>
     Option.bind a2[n2]? fun y3 =>
     Option.bind (g_sl05Has (x0.2.1, y3)) fun r4 =>
     bif r4.1 then
      Option.bind (g_sl12Say_r (x0.1, a1, (3 : Int))) fun r5 =>
      some (Sum.inr ((1 : Int), r5.2))
     else bnd a2.length x0.2.2 fun n6 =>
     Option.bind a2[n6]? fun y7 =>
     Option.bind (g_sl05Put (x0.2.1, y7)) fun r8 =>
     self1 (x0.1, r8.1, IntKind.wrap .i64 (x0.2.2 + (1 : Int)))
    else some (Sum.inl (x0.1, x0.2.1))) (a0, a0.2.2.1, (0 : Int)) : Option (((Int × List (Int) × List (Int × Int) × List ((List (Int))) × List (Int) × Int × Int × Int × Int × Int × Int × Int × List (Int × Int) × Int × List (Int × Int × Int × Int × Int × Int)) × (List (Int × Int))) ⊕ (Int × (Int × List (Int) × List (Int × Int) × List ((List (Int))) × List (Int) × Int × Int × Int × Int × Int × Int × Int × List (Int × Int) × Int × List (Int × Int × Int × Int × Int × Int))))) fun y => match y with
  | .inl x9 =>
   bnd x9.1.2.1.length a1.2.2.1 fun n10 =>
   Option.bind x9.1.2.1[n10]? fun y11 =>
   Option.bind (g_sInside (x9.1.2.1.set n10 a1.2.2.2, x9.2, a1.2.2.2)) fun r12 =>
   Option.bind (loopT n (X := (List (Int × Int)) × Int) (B := (List (Int × Int))) (fun self14 x13 =>
     bif decide (x13.2 < (r12.1.length : Int)) then
      bnd r12.1.length x13.2 fun n15 =>
      Option.bind r12.1[n15]? fun y16 =>
      Option.bind (g_sl05Without (x13.1, y16)) fun r17 =>
      self14 (r17.1, IntKind.wrap .i64 (x13.2 + (1 : Int)))
     else some x13.1) (x9.2, (0 : Int)) : Option ((List (Int × Int)))) fun x18 =>
   bif decide ((r12.1.length : Int) = (0 : Int)) then
    Option.bind (g_sl12Say_r ((x9.1.1, x9.1.2.1.set n10 a1.2.2.2, x18, x9.1.2.2.2), a1, (1 : Int))) fun r19 =>
    some ((1 : Int), r19.2)
   else Option.bind (g_sl12Task_r ((x9.1.1, x9.1.2.1.set n10 a1.2.2.2, x18, x9.1.2.2.2), a1, a1.2.2.2, ((0 : Int), (4 : Int), r12.1, (0 : Int)))) fun r20 =>
   some (r20.1, r20.2)
  | .inr x9 =>
   some (x9.1, x9.2) := by kernel_rfl
/- spec.l12Say -/
def c_sl12Say : TC :=
 (.seq (.rg [o1 4 (.a (.t 1))])
 (.seq (.rg [o1 6 (.p0),
   o1 7 (.p0),
   o1 8 (.same 7),
   o1 9 (.idx (.t 8)),
   o1 10 (.load 0 [] 14 (.t 9) 1 true),
   o1 11 (.idx .nil),
   o1 12 (.load 4 [] 0 (.t 11) 1 false),
   o1 13 (.load 4 [] 0 .nil 4 false),
   o1 14 (.copy 2),
   o1 15 (.build [.i .i64, .i .i64, .i .i64, .i .i64, .i .i64, .i .i64] [(0, .t 12), (1, .t 13), (5, .t 14)]),
   o1 16 (.sli [.i .i64, .i .i64, .i .i64, .i .i64, .i .i64, .i .i64] [.t 15]),
   ⟨false, [10], [], .det 2 (.app (some 10) 16), [17, 10, 10, 0], (some 17), none⟩,
   o1 18 (.same 6),
   o1 19 (.idx (.t 18)),
   o4 2 [0, 17, 10] (.store 0 [] 14 (.t 19) (.t 17))])
 (.rg [o1 20 (.p0),
   o1 21 (.build [.i .i64, .i .i64, .i .i64, .i .i64, .i .i64, .i .i64, .i .i64, .sl [.i .i64, .i .i64], .i .i64] []),
   o1 22 (.same 20),
   o1 23 (.idx (.t 22)),
   o4 2 [0, 21] (.store 0 [] 5 (.t 23) (.t 21))])))
def s_sl12Say : Sig := ⟨[.mp [.d, .sl (.own none) [.d], .sl (.own none) [.d, .d], .sl (.own none) [.sl (.own none) [.d]], .sl (.own none) [.d], .d, .d, .d, .d, .d, .d, .d, .sl (.own none) [.d, .d], .d, .sl (.own none) [.d, .d, .d, .d, .d, .d]], .rd true [.d, .d, .d, .d], .rd false [.d]], .u⟩
noncomputable def E_sl12Say : TEnv := envOf []
noncomputable def f_sl12Say (n : Nat) : (Int × List (Int) × List (Int × Int) × List (List (Int)) × List (Int) × Int × Int × Int × Int × Int × Int × Int × List (Int × Int) × Int × List (Int × Int × Int × Int × Int × Int)) × (Int × Int × Int × Int) × Int → Option ((Unit) × Int × List (Int) × List (Int × Int) × List (List (Int)) × List (Int) × Int × Int × Int × Int × Int × Int × Int × List (Int × Int) × Int × List (Int × Int × Int × Int × Int × Int)) := runFn n E_sl12Say c_sl12Say [[.i .i64, .sl [.i .i64], .sl [.i .i64, .i .i64], .sl [.sl [.i .i64]], .sl [.i .i64], .i .i64, .i .i64, .i .i64, .i .i64, .i .i64, .i .i64, .i .i64, .sl [.i .i64, .i .i64], .i .i64, .sl [.i .i64, .i .i64, .i .i64, .i .i64, .i .i64, .i .i64]], [.i .i64, .i .i64, .i .i64, .i .i64], [.i .i64]] [] [.i .i64, .sl [.i .i64], .sl [.i .i64, .i .i64], .sl [.sl [.i .i64]], .sl [.i .i64], .i .i64, .i .i64, .i .i64, .i .i64, .i .i64, .i .i64, .i .i64, .sl [.i .i64, .i .i64], .i .i64, .sl [.i .i64, .i .i64, .i .i64, .i .i64, .i .i64, .i .i64]] [] (.mp 0)
noncomputable def g_sl12Say := f_sl12Say BIG
noncomputable def p_sl12Say : TSp := ⟨s_sl12Say, [[.i .i64, .sl [.i .i64], .sl [.i .i64, .i .i64], .sl [.sl [.i .i64]], .sl [.i .i64], .i .i64, .i .i64, .i .i64, .i .i64, .i .i64, .i .i64, .i .i64, .sl [.i .i64, .i .i64], .i .i64, .sl [.i .i64, .i .i64, .i .i64, .i .i64, .i .i64, .i .i64]], [.i .i64, .i .i64, .i .i64, .i .i64], [.i .i64]], [], [.i .i64, .sl [.i .i64], .sl [.i .i64, .i .i64], .sl [.sl [.i .i64]], .sl [.i .i64], .i .i64, .i .i64, .i .i64, .i .i64, .i .i64, .i .i64, .i .i64, .sl [.i .i64, .i .i64], .i .i64, .sl [.i .i64, .i .i64, .i .i64, .i .i64, .i .i64, .i .i64]], Ou.j (.mp 0), g_sl12Say⟩
theorem k_sl12Say : chkW PG E_sl12Say 171 s_sl12Say (c_sl12Say.ht 24) (.mp 0) = some (c_sl12Say.wc E_sl12Say, []) := by kernel_rfl
theorem ok_sl12Say : p_sl12Say.Ok PG 171 := mkOk (env_nil PG) k_sl12Say (by kernel_rfl)
theorem e_sl12Say (n : Nat) (a0 : Int × List (Int) × List (Int × Int) × List ((List (Int))) × List (Int) × Int × Int × Int × Int × Int × Int × Int × List (Int × Int) × Int × List (Int × Int × Int × Int × Int × Int)) (a1 : Int × Int × Int × Int) (a2 : Int) : f_sl12Say n (a0, a1, a2) =
  bif decide (a0.2.2.2.2.2.2.2.2.2.2.2.2.2.2.length + ([(a1.1, a1.1, a1.2.1, a1.2.2.1, a1.2.2.2, a2)]).length ≤ 4294967296) then
   some ((), (a0.1, a0.2.1, a0.2.2.1, a0.2.2.2.1, a0.2.2.2.2.1, (0 : Int), (0 : Int), (0 : Int), (0 : Int), (0 : Int), (0 : Int), (0 : Int), [], (0 : Int), a0.2.2.2.2.2.2.2.2.2.2.2.2.2.2 ++ ([(a1.1, a1.1, a1.2.1, a1.2.2.1, a1.2.2.2, a2)])))
  else none := by kernel_rfl
/- spec.Hear -/
def c_sHear : TC :=
 (.seq (.rg [o1 3 (.a (.t 0)),
   o1 5 (.a (.t 2)),
   ⟨false, [], [], .det 2 (.a (.c [.i .i64, .sl [.i .i64], .sl [.i .i64, .i .i64], .sl [.sl [.i .i64]], .sl [.i .i64], .i .i64, .i .i64, .i .i64, .i .i64, .i .i64, .i .i64, .i .i64, .sl [.i .i64, .i .i64], .i .i64, .sl [.i .i64, .i .i64, .i .i64, .i .i64, .i .i64, .i .i64]] [.int .i64 (0), .slice none 0 0, .slice none 0 0, .slice none 0 0, .slice none 0 0, .int .i64 (0), .int .i64 (0), .int .i64 (0), .int .i64 (0), .int .i64 (0), .int .i64 (0), .int .i64 (0), .slice none 0 0, .int .i64 (0), .slice none 0 0])), [6, 1000000001], (some 6), none⟩,
   o1 7 (.lit [.i .i64] [.int .i64 (0)])])
 (.seq (.rg [o1 12 (.load 3 [] 0 .nil 15 false),
   o3 13 167 [.t 12],
   ⟨false, [], [], .det 2 (.a (.c [.i .i64, .sl [.i .i64], .sl [.i .i64, .i .i64], .sl [.sl [.i .i64]], .sl [.i .i64], .i .i64, .i .i64, .i .i64, .i .i64, .i .i64, .i .i64, .i .i64, .sl [.i .i64, .i .i64], .i .i64, .sl [.i .i64, .i .i64, .i .i64, .i .i64, .i .i64, .i .i64]] [.int .i64 (0), .slice none 0 0, .slice none 0 0, .slice none 0 0, .slice none 0 0, .int .i64 (0), .int .i64 (0), .int .i64 (0), .int .i64 (0), .int .i64 (0), .int .i64 (0), .int .i64 (0), .slice none 0 0, .int .i64 (0), .slice none 0 0])), [8, 1000000001], (some 8), none⟩,
   o4 2 [8, 13] (.store 8 [] 0 .nil (.t 13))])
 (.seq (.seq (.join [⟨44, [.b], false⟩] 35184372072448 none (.rg [o1 14 (.load 3 [] 0 .nil 15 false),
   o3 15 168 [.t 14],
   o1 16 (.data .not [.t 15]),
   o1 17 (.copy 16),
   o2 18 (.idx .nil) 3 false,
   o2 19 (.load 3 [] 0 (.t 18) 1 false) 3 false,
   o2 20 (.load 5 [] 0 .nil 4 false) 3 false,
   ⟨false, [], [], .call 1 130 [.t 19, .t 20] .no, [21], (some 21), some (3, false)⟩,
   o2 22 (.data .not [.t 21]) 3 false,
   ⟨false, [], [], .pick 17 (.c (.bool true)) (.t 22), [23], (some 23), none⟩,
   o1 24 (.copy 23),
   o2 25 (.load 3 [] 0 .nil 15 false) 10 false,
   ⟨false, [], [], .call 1 169 [.t 25] .no, [26], (some 26), some (10, false)⟩,
   o2 27 (.data .not [.t 26]) 10 false,
   ⟨false, [], [], .pick 24 (.c (.bool true)) (.t 27), [28], (some 28), none⟩,
   o1 29 (.copy 28),
   o2 30 (.copy 1) 15 false,
   o2 31 (.idx .nil) 15 false,
   o2 32 (.idx (.t 31)) 15 false,
   o2 33 (.load 3 [] 9 (.t 32) 1 false) 15 false,
   o2 34 (.data (.bin .neq) [.t 30, .t 33]) 15 false,
   ⟨false, [], [], .pick 29 (.c (.bool true)) (.t 34), [35], (some 35), none⟩,
   o1 36 (.copy 35),
   o2 37 (.idx .nil) 22 false,
   o2 38 (.load 5 [] 0 (.t 37) 1 false) 22 false,
   o2 39 (.idx .nil) 22 false,
   o2 40 (.idx (.t 39)) 22 false,
   o2 41 (.idx (.t 40)) 22 false,
   o2 42 (.load 3 [] 10 (.t 41) 1 false) 22 false,
   o2 43 (.data (.bin .neq) [.t 38, .t 42]) 22 false,
   ⟨false, [], [], .pick 36 (.c (.bool true)) (.t 43), [44], (some 44), none⟩]))
 (.cond (.t 44)
  (.seq (.rg [o1 45 (.load 8 [] 0 .nil 15 true),
    ⟨false, [45], [], .det 2 (.store 6 [] 0 .nil (.t 45)), [6, 45, 45, 8], none, none⟩,
    o1 7 (.lit [.i .i64] [.int .i64 (0)])])
  .ret)
  .skip))
 (.seq (.rg [o1 46 (.idx .nil),
   o1 47 (.load 3 [] 5 (.t 46) 9 false),
   ⟨false, [], [], .det 2 (.a (.c [.i .i64, .i .i64, .i .i64, .i .i64, .i .i64, .i .i64, .i .i64, .sl [.i .i64, .i .i64], .i .i64] [.int .i64 (0), .int .i64 (0), .int .i64 (0), .int .i64 (0), .int .i64 (0), .int .i64 (0), .int .i64 (0), .slice none 0 0, .int .i64 (0)])), [9, 1000000001], (some 9), none⟩,
   o4 1 [9] (.store 9 [] 0 .nil (.t 47))])
 (.seq (.rg [o1 48 (.idx .nil),
   o1 49 (.load 8 [] 4 (.t 48) 1 true),
   o1 50 (.copy 1),
   o1 51 (.data (.bin .sub) [.t 50, .c (.int .i64 (1))]),
   o1 52 (.idx .nil),
   o1 53 (.load 5 [] 0 (.t 52) 1 false),
   o1 54 (.index 49 (.t 51)),
   o4 1 [8, 49] (.store 8 [(4, 1)] 0 (.t 54) (.t 53))])
 (.seq (.rg [o1 55 (.idx .nil),
   o1 56 (.load 8 [] 3 (.t 55) 1 true),
   o1 57 (.copy 1),
   o1 58 (.data (.bin .sub) [.t 57, .c (.int .i64 (1))]),
   o1 59 (.sli [.i .i64] []),
   o1 60 (.idx .nil),
   o1 61 (.load 5 [] 3 (.t 60) 1 false),
   ⟨false, [], [], .det 2 (.app (some 59) 61), [62, 59], (some 62), none⟩,
   o1 63 (.index 56 (.t 58)),
   o4 2 [8, 62, 48, 54, 63, 56, 55] (.store 8 [(3, 1)] 0 (.t 63) (.t 62))])
 (.seq (.seq (.join [⟨73, [.b], false⟩] 18871019187404871303168 none (.rg [o1 64 (.idx .nil),
   o1 65 (.idx (.t 64)),
   o1 66 (.load 9 [] 1 (.t 65) 1 false),
   o1 67 (.data (.bin .eql) [.t 66, .c (.int .i64 (4))]),
   o1 68 (.copy 67),
   o2 69 (.idx .nil) 4 true,
   o2 70 (.idx (.t 69)) 4 true,
   o2 71 (.load 9 [] 6 (.t 70) 1 false) 4 true,
   o2 72 (.data (.bin .eql) [.t 71, .c (.int .i64 (3))]) 4 true,
   ⟨false, [], [], .pick 68 (.t 72) (.c (.bool false)), [73], (some 73), none⟩]))
 (.cond (.t 73)
  (.seq (.rg [o1 74 (.idx .nil),
    o1 75 (.load 9 [] 0 (.t 74) 4 false),
    o1 76 (.idx .nil),
    o1 77 (.load 5 [] 2 (.t 76) 1 false),
    ⟨false, [], [3000008002], .call 2 170 [.t 8, .t 75, .t 77] (.mp 0), [78, 8, 8], (some 78), none⟩,
    o1 10 (.copy 78)])
  (.seq (.rg [o1 79 (.load 8 [] 0 .nil 15 true),
    o3 80 167 [.t 79],
    o1 81 (.copy 10),
    o4 2 [6, 80] (.store 6 [] 0 .nil (.t 80)),
    o1 7 (.copy 81)])
  .ret))
  .skip))
 (.seq (.rg [o1 11 (.lit [.i .i64] [.int .i64 (1)])])
 (.seq (.join [⟨11, [.i .i64], false⟩] 2471044375292302033099425792 none (.seq (.join [⟨90, [.b], false⟩] 2471044375292302033099423744 none (.rg [o1 82 (.idx .nil),
   o1 83 (.idx (.t 82)),
   o1 84 (.load 9 [] 1 (.t 83) 1 false),
   o1 85 (.data (.bin .neq) [.t 84, .c (.int .i64 (4))]),
   o1 86 (.copy 85),
   o2 87 (.idx .nil) 4 true,
   o2 88 (.load 5 [] 1 (.t 87) 1 false) 4 true,
   o2 89 (.data .not [.t 88]) 4 true,
   ⟨false, [], [], .pick 86 (.t 89) (.c (.bool false)), [90], (some 90), none⟩]))
 (.cond (.t 90)
  (.rg [o1 11 (.lit [.i .i64] [.int .i64 (2)])])
  .skip)))
 (.seq (.rg [o1 91 (.idx .nil),
   o1 92 (.load 9 [] 0 (.t 91) 4 false),
   o1 93 (.copy 11),
   ⟨false, [], [], .call 2 171 [.t 8, .t 92, .t 93] (.mp 0), [94, 8], (some 94), none⟩])
 (.seq (.rg [o1 95 (.load 8 [] 0 .nil 15 true),
   ⟨false, [95], [], .det 2 (.store 6 [] 0 .nil (.t 95)), [6, 95, 95, 8], none, none⟩,
   o1 7 (.lit [.i .i64] [.int .i64 (1)])])
 .ret)))))))))))
def s_sHear : Sig := ⟨[.rd true [.d, .sl (.own none) [.d], .sl (.own none) [.d, .d], .sl (.own none) [.sl (.own none) [.d]], .sl (.own none) [.d], .d, .d, .d, .d, .d, .d, .d, .sl (.own none) [.d, .d], .d, .sl (.own none) [.d, .d, .d, .d, .d, .d]], .rd false [.d], .rd true [.d, .d, .sl (.own none) [.d, .d], .sl (.own none) [.d]]], (.tup [(true, 15), (false, 1)] [.d, .sl (.own none) [.d], .sl (.own none) [.d, .d], .sl (.own none) [.sl (.own none) [.d]], .sl (.own none) [.d], .d, .d, .d, .d, .d, .d, .d, .sl (.own none) [.d, .d], .d, .sl (.own none) [.d, .d, .d, .d, .d, .d], .d])⟩
noncomputable def E_sHear : TEnv := envOf [(167, p_sl12Copy), (168, p_sHeadOk), (130, p_sAnswerOk), (169, p_sBusy), (170, p_sl12Moved), (171, p_sl12Say)]
noncomputable def f_sHear (n : Nat) : (Int × List (Int) × List (Int × Int) × List (List (Int)) × List (Int) × Int × Int × Int × Int × Int × Int × Int × List (Int × Int) × Int × List (Int × Int × Int × Int × Int × Int)) × Int × (Int × Bool × List (Int × Int) × List (Int)) → Option ((Int × List (Int) × List (Int × Int) × List (List (Int)) × List (Int) × Int × Int × Int × Int × Int × Int × Int × List (Int × Int) × Int × List (Int × Int × Int × Int × Int × Int) × Int) × Unit) := runFn n E_sHear c_sHear [[.i .i64, .sl [.i .i64], .sl [.i .i64, .i .i64], .sl [.sl [.i .i64]], .sl [.i .i64], .i .i64, .i .i64, .i .i64, .i .i64, .i .i64, .i .i64, .i .i64, .sl [.i .i64, .i .i64], .i .i64, .sl [.i .i64, .i .i64, .i .i64, .i .i64, .i .i64, .i .i64]], [.i .i64], [.i .i64, .b, .sl [.i .i64, .i .i64], .sl [.i .i64]]] [.i .i64, .sl [.i .i64], .sl [.i .i64, .i .i64], .sl [.sl [.i .i64]], .sl [.i .i64], .i .i64, .i .i64, .i .i64, .i .i64, .i .i64, .i .i64, .i .i64, .sl [.i .i64, .i .i64], .i .i64, .sl [.i .i64, .i .i64, .i .i64, .i .i64, .i .i64, .i .i64], .i .i64] [] [6, 7] .no
noncomputable def g_sHear := f_sHear BIG
noncomputable def p_sHear : TSp := ⟨s_sHear, [[.i .i64, .sl [.i .i64], .sl [.i .i64, .i .i64], .sl [.sl [.i .i64]], .sl [.i .i64], .i .i64, .i .i64, .i .i64, .i .i64, .i .i64, .i .i64, .i .i64, .sl [.i .i64, .i .i64], .i .i64, .sl [.i .i64, .i .i64, .i .i64, .i .i64, .i .i64, .i .i64]], [.i .i64], [.i .i64, .b, .sl [.i .i64, .i .i64], .sl [.i .i64]]], [.i .i64, .sl [.i .i64], .sl [.i .i64, .i .i64], .sl [.sl [.i .i64]], .sl [.i .i64], .i .i64, .i .i64, .i .i64, .i .i64, .i .i64, .i .i64, .i .i64, .sl [.i .i64, .i .i64], .i .i64, .sl [.i .i64, .i .i64, .i .i64, .i .i64, .i .i64, .i .i64], .i .i64], [], Ou.j .no, g_sHear⟩
theorem k_sHear : chkW PG E_sHear 70 s_sHear (c_sHear.ht 96) .no = some (c_sHear.wc E_sHear, [6, 7]) := by kernel_rfl
theorem ok_sHear : p_sHear.Ok PG 70 := mkOk (env_cons ok_sl12Copy (env_cons ok_sHeadOk (env_cons ok_sAnswerOk (env_cons ok_sBusy (env_cons ok_sl12Moved (env_cons ok_sl12Say (env_nil PG))))))) k_sHear (by kernel_rfl)
theorem e_sHear (n : Nat) (a0 : Int × List (Int) × List (Int × Int) × List ((List (Int))) × List (Int) × Int × Int × Int × Int × Int × Int × Int × List (Int × Int) × Int × List (Int × Int × Int × Int × Int × Int)) (a1 : Int) (a2 : Int × Bool × List (Int × Int) × List (Int)) : f_sHear n (a0, a1, a2) =
  Option.bind (g_sl12Copy a0) fun r0 =>
  Option.bind (Option.bind (g_sHeadOk a0) fun r1 =>
   bif !r1.1 then
    some true
   else Option.bind (g_sAnswerOk (a0.1, a2)) fun r2 =>
   bif !r2.1 then
    some true
   else Option.bind (g_sBusy a0) fun r3 =>
   bif !r3.1 then
    some true
   else bif !decide (a1 = a0.2.2.2.2.2.2.2.2.2.1) then
    some true
   else some (!decide (a2.1 = a0.2.2.2.2.2.2.2.2.2.2.1)) : Option (Bool)) fun x4 =>
  bif x4 then
   some ((r0.1.1, r0.1.2.1, r0.1.2.2.1, r0.1.2.2.2.1, r0.1.2.2.2.2.1, r0.1.2.2.2.2.2.1, r0.1.2.2.2.2.2.2.1, r0.1.2.2.2.2.2.2.2.1, r0.1.2.2.2.2.2.2.2.2.1, r0.1.2.2.2.2.2.2.2.2.2.1, r0.1.2.2.2.2.2.2.2.2.2.2.1, r0.1.2.2.2.2.2.2.2.2.2.2.2.1, r0.1.2.2.2.2.2.2.2.2.2.2.2.2.1, r0.1.2.2.2.2.2.2.2.2.2.2.2.2.2.1, r0.1.2.2.2.2.2.2.2.2.2.2.2.2.2.2, (0 : Int)), ())
  else bnd r0.1.2.2.2.2.1.length (IntKind.wrap .i64 (a1 - (1 : Int))) fun n5 =>
  Option.bind r0.1.2.2.2.2.1[n5]? fun y6 =>
  bif decide (0 + a2.2.2.2.length ≤ 4294967296) then
   bnd r0.1.2.2.2.1.length (IntKind.wrap .i64 (a1 - (1 : Int))) fun n7 =>
   Option.bind r0.1.2.2.2.1[n7]? fun y8 =>
   Option.bind (bif decide (a0.2.2.2.2.2.2.1 = (4 : Int)) then
     some (decide (a0.2.2.2.2.2.2.2.2.2.2.2.1 = (3 : Int)))
    else some false : Option (Bool)) fun x9 =>
   bif x9 then
    Option.bind (g_sl12Moved ((r0.1.1, r0.1.2.1, r0.1.2.2.1, r0.1.2.2.2.1.set n7 ([] ++ a2.2.2.2), r0.1.2.2.2.2.1.set n5 a2.1, r0.1.2.2.2.2.2), (a0.2.2.2.2.2.1, a0.2.2.2.2.2.2.1, a0.2.2.2.2.2.2.2.1, a0.2.2.2.2.2.2.2.2.1), a2.2.2.1)) fun r10 =>
    Option.bind (g_sl12Copy r10.2) fun r11 =>
    some ((r11.1.1, r11.1.2.1, r11.1.2.2.1, r11.1.2.2.2.1, r11.1.2.2.2.2.1, r11.1.2.2.2.2.2.1, r11.1.2.2.2.2.2.2.1, r11.1.2.2.2.2.2.2.2.1, r11.1.2.2.2.2.2.2.2.2.1, r11.1.2.2.2.2.2.2.2.2.2.1, r11.1.2.2.2.2.2.2.2.2.2.2.1, r11.1.2.2.2.2.2.2.2.2.2.2.2.1, r11.1.2.2.2.2.2.2.2.2.2.2.2.2.1, r11.1.2.2.2.2.2.2.2.2.2.2.2.2.2.1, r11.1.2.2.2.2.2.2.2.2.2.2.2.2.2.2, r10.1), ())
   else Option.bind (Option.bind (bif !decide (a0.2.2.2.2.2.2.1 = (4 : Int)) then
      some !a2.2.1
     else some false : Option (Bool)) fun x12 =>
    bif x12 then
     some (2 : Int)
    else some (1 : Int) : Option (Int)) fun x13 =>
   Option.bind (g_sl12Say ((r0.1.1, r0.1.2.1, r0.1.2.2.1, r0.1.2.2.2.1.set n7 ([] ++ a2.2.2.2), r0.1.2.2.2.2.1.set n5 a2.1, r0.1.2.2.2.2.2), (a0.2.2.2.2.2.1, a0.2.2.2.2.2.2.1, a0.2.2.2.2.2.2.2.1, a0.2.2.2.2.2.2.2.2.1), x13)) fun r14 =>
   some ((r14.2.1, r14.2.2.1, r14.2.2.2.1, r14.2.2.2.2.1, r14.2.2.2.2.2.1, r14.2.2.2.2.2.2.1, r14.2.2.2.2.2.2.2.1, r14.2.2.2.2.2.2.2.2.1, r14.2.2.2.2.2.2.2.2.2.1, r14.2.2.2.2.2.2.2.2.2.2.1, r14.2.2.2.2.2.2.2.2.2.2.2.1, r14.2.2.2.2.2.2.2.2.2.2.2.2.1, r14.2.2.2.2.2.2.2.2.2.2.2.2.2.1, r14.2.2.2.2.2.2.2.2.2.2.2.2.2.2.1, r14.2.2.2.2.2.2.2.2.2.2.2.2.2.2.2, (1 : Int)), ())
  else none := by kernel_rfl
/- impl.copyInts -/
def c_icopyInts : TC :=
 (.seq (.rg [o1 2 (.lit [.sl [.i .i64]] [.slice none 0 0])])
 (.seq (.rg [o1 3 (.copy 0),
   o1 4 (.app none 3),
   ⟨false, [], [], .det 2 (.copy 4), [2, 4], (some 2), none⟩])
 .ret))
def s_icopyInts : Sig := ⟨[.rd false [.sl (.own none) [.d]]], (.one false [.sl (.own none) [.d]])⟩
noncomputable def E_icopyInts : TEnv := envOf []
noncomputable def f_icopyInts (n : Nat) : List (Int) → Option ((List (Int)) × Unit) := runFn n E_icopyInts c_icopyInts [[.sl [.i .i64]]] [.sl [.i .i64]] [] [2] .no
noncomputable def g_icopyInts := f_icopyInts BIG
noncomputable def p_icopyInts : TSp := ⟨s_icopyInts, [[.sl [.i .i64]]], [.sl [.i .i64]], [], Ou.j .no, g_icopyInts⟩
theorem k_icopyInts : chkW PG E_icopyInts 100 s_icopyInts (c_icopyInts.ht 5) .no = some (c_icopyInts.wc E_icopyInts, [2]) := by kernel_rfl
theorem ok_icopyInts : p_icopyInts.Ok PG 100 := mkOk (env_nil PG) k_icopyInts (by kernel_rfl)
theorem e_icopyInts (n : Nat) (a0 : List (Int)) : f_icopyInts n a0 =
  bif decide (a0.length ≤ 4294967296) then
   some (a0, ())
  else none := by kernel_rfl
/- impl.copyEdges -/
def c_icopyEdges : TC :=
 (.seq (.rg [o1 2 (.lit [.sl [.i .i64, .i .i64]] [.slice none 0 0])])
 (.seq (.rg [o1 3 (.copy 0),
   o1 4 (.app none 3),
   ⟨false, [], [], .det 2 (.copy 4), [2, 4], (some 2), none⟩])
 .ret))
def s_icopyEdges : Sig := ⟨[.rd false [.sl (.own none) [.d, .d]]], (.one false [.sl (.own none) [.d, .d]])⟩
noncomputable def E_icopyEdges : TEnv := envOf []
noncomputable def f_icopyEdges (n : Nat) : (List (Int × Int)) → Option ((List (Int × Int)) × Unit) := runFn n E_icopyEdges c_icopyEdges [[.sl [.i .i64, .i .i64]]] [.sl [.i .i64, .i .i64]] [] [2] .no
noncomputable def g_icopyEdges := f_icopyEdges BIG
noncomputable def p_icopyEdges : TSp := ⟨s_icopyEdges, [[.sl [.i .i64, .i .i64]]], [.sl [.i .i64, .i .i64]], [], Ou.j .no, g_icopyEdges⟩
theorem k_icopyEdges : chkW PG E_icopyEdges 235 s_icopyEdges (c_icopyEdges.ht 5) .no = some (c_icopyEdges.wc E_icopyEdges, [2]) := by kernel_rfl
theorem ok_icopyEdges : p_icopyEdges.Ok PG 235 := mkOk (env_nil PG) k_icopyEdges (by kernel_rfl)
theorem e_icopyEdges (n : Nat) (a0 : List (Int × Int)) : f_icopyEdges n a0 =
  bif decide (a0.length ≤ 4294967296) then
   some (a0, ())
  else none := by kernel_rfl
/- impl.copyTask -/
def c_icopyTask : TC :=
 (.seq (.rg [o1 1 (.a (.t 0)),
   ⟨false, [], [], .det 2 (.a (.c [.i .i64, .i .i64, .i .i64, .i .i64, .i .i64, .i .i64, .i .i64, .sl [.i .i64, .i .i64], .i .i64] [.int .i64 (0), .int .i64 (0), .int .i64 (0), .int .i64 (0), .int .i64 (0), .int .i64 (0), .int .i64 (0), .slice none 0 0, .int .i64 (0)])), [2, 1000000001], (some 2), none⟩])
 (.seq (.rg [o1 3 (.idx .nil),
   o1 4 (.idx (.t 3)),
   o1 5 (.load 1 [] 7 (.t 4) 1 false),
   o3 6 235 [.t 5],
   o1 7 (.idx .nil),
   o1 8 (.idx (.t 7)),
   o4 2 [1, 6] (.store 1 [] 7 (.t 8) (.t 6))])
 (.seq (.rg [o1 9 (.load 1 [] 0 .nil 9 true),
   ⟨false, [9], [], .det 2 (.store 2 [] 0 .nil (.t 9)), [2, 9, 9, 1], none, none⟩])
 .ret)))
def s_icopyTask : Sig := ⟨[.rd true [.d, .d, .d, .d, .d, .d, .d, .sl (.own none) [.d, .d], .d]], (.one true [.d, .d, .d, .d, .d, .d, .d, .sl (.own none) [.d, .d], .d])⟩
noncomputable def E_icopyTask : TEnv := envOf [(235, p_icopyEdges)]
noncomputable def f_icopyTask (n : Nat) : (Int × Int × Int × Int × Int × Int × Int × List (Int × Int) × Int) → Option ((Int × Int × Int × Int × Int × Int × Int × List (Int × Int) × Int) × Unit) := runFn n E_icopyTask c_icopyTask [[.i .i64, .i .i64, .i .i64, .i .i64, .i .i64, .i .i64, .i .i64, .sl [.i .i64, .i .i64], .i .i64]] [.i .i64, .i .i64, .i .i64, .i .i64, .i .i64, .i .i64, .i .i64, .sl [.i .i64, .i .i64], .i .i64] [] [2] .no
noncomputable def g_icopyTask := f_icopyTask BIG
noncomputable def p_icopyTask : TSp := ⟨s_icopyTask, [[.i .i64, .i .i64, .i .i64, .i .i64, .i .i64, .i .i64, .i .i64, .sl [.i .i64, .i .i64], .i .i64]], [.i .i64, .i .i64, .i .i64, .i .i64, .i .i64, .i .i64, .i .i64, .sl [.i .i64, .i .i64], .i .i64], [], Ou.j .no, g_icopyTask⟩
theorem k_icopyTask : chkW PG E_icopyTask 236 s_icopyTask (c_icopyTask.ht 10) .no = some (c_icopyTask.wc E_icopyTask, [2]) := by kernel_rfl
theorem ok_icopyTask : p_icopyTask.Ok PG 236 := mkOk (env_cons ok_icopyEdges (env_nil PG)) k_icopyTask (by kernel_rfl)
theorem e_icopyTask (n : Nat) (a0 : Int × Int × Int × Int × Int × Int × Int × List (Int × Int) × Int) : f_icopyTask n a0 =
  Option.bind (g_icopyEdges a0.2.2.2.2.2.2.2.1) fun r0 =>
  some ((a0.1, a0.2.1, a0.2.2.1, a0.2.2.2.1, a0.2.2.2.2.1, a0.2.2.2.2.2.1, a0.2.2.2.2.2.2.1, r0.1, a0.2.2.2.2.2.2.2.2), ()) := by kernel_rfl
/- impl.copyHead -/
def c_icopyHead : TC :=
 (.seq (.rg [o1 1 (.a (.t 0)),
   ⟨false, [], [], .det 2 (.a (.c [.i .i64, .sl [.i .i64], .sl [.i .i64, .i .i64], .sl [.sl [.i .i64]], .sl [.i .i64], .i .i64, .i .i64, .i .i64, .i .i64, .i .i64, .i .i64, .i .i64, .sl [.i .i64, .i .i64], .i .i64, .sl [.i .i64, .i .i64, .i .i64, .i .i64, .i .i64, .i .i64]] [.int .i64 (0), .slice none 0 0, .slice none 0 0, .slice none 0 0, .slice none 0 0, .int .i64 (0), .int .i64 (0), .int .i64 (0), .int .i64 (0), .int .i64 (0), .int .i64 (0), .int .i64 (0), .slice none 0 0, .int .i64 (0), .slice none 0 0])), [2, 1000000001], (some 2), none⟩])
 (.seq (.rg [⟨false, [], [1000000001], .det 1 (.idx .nil), [6], (some 6), none⟩,
   ⟨false, [], [1000000001], .det 1 (.load 1 [] 0 (.t 6) 1 false), [7], (some 7), none⟩,
   ⟨false, [], [1000000001], .det 1 (.idx .nil), [8], (some 8), none⟩,
   ⟨false, [], [1000000001], .det 1 (.load 1 [] 1 (.t 8) 1 false), [9], (some 9), none⟩,
   ⟨false, [], [1000000001], .call 1 100 [.t 9] .no, [10], (some 10), none⟩,
   ⟨false, [], [1000000001], .det 1 (.idx .nil), [11], (some 11), none⟩,
   ⟨false, [], [1000000001], .det 1 (.load 1 [] 2 (.t 11) 1 false), [12], (some 12), none⟩,
   ⟨false, [], [1000000001], .call 1 235 [.t 12] .no, [13], (some 13), none⟩,
   ⟨false, [], [1000000001], .det 1 (.idx .nil), [14], (some 14), none⟩,
   ⟨false, [], [1000000001], .det 1 (.load 1 [] 4 (.t 14) 1 false), [15], (some 15), none⟩,
   ⟨false, [], [1000000001], .call 1 100 [.t 15] .no, [16], (some 16), none⟩,
   ⟨false, [], [1000000001], .det 1 (.idx .nil), [17], (some 17), none⟩,
   ⟨false, [], [1000000001], .det 1 (.load 1 [] 5 (.t 17) 9 false), [18], (some 18), none⟩,
   ⟨false, [], [1000000001], .call 1 236 [.t 18] .no, [19], (some 19), none⟩,
   ⟨false, [], [1000000001], .det 1 (.idx .nil), [20], (some 20), none⟩,
   ⟨false, [], [1000000001], .det 1 (.load 1 [] 14 (.t 20) 1 false), [21], (some 21), none⟩,
   ⟨false, [], [1000000001], .det 1 (.app none 21), [22], (some 22), none⟩,
   ⟨false, [], [1000000001], .det 6 (.build [.i .i64, .sl [.i .i64], .sl [.i .i64, .i .i64], .sl [.sl [.i .i64]], .sl [.i .i64], .i .i64, .i .i64, .i .i64, .i .i64, .i .i64, .i .i64, .i .i64, .sl [.i .i64, .i .i64], .i .i64, .sl [.i .i64, .i .i64, .i .i64, .i .i64, .i .i64, .i .i64]] [(0, .t 7), (1, .t 10), (2, .t 13), (4, .t 16), (5, .t 19), (14, .t 22)]), [23, 10, 13, 16, 19, 22], (some 23), none⟩,
   ⟨false, [], [], .det 2 (.a (.c [.i .i64, .sl [.i .i64], .sl [.i .i64, .i .i64], .sl [.sl [.i .i64]], .sl [.i .i64], .i .i64, .i .i64, .i .i64, .i .i64, .i .i64, .i .i64, .i .i64, .sl [.i .i64, .i .i64], .i .i64, .sl [.i .i64, .i .i64, .i .i64, .i .i64, .i .i64, .i .i64]] [.int .i64 (0), .slice none 0 0, .slice none 0 0, .slice none 0 0, .slice none 0 0, .int .i64 (0), .int .i64 (0), .int .i64 (0), .int .i64 (0), .int .i64 (0), .int .i64 (0), .int .i64 (0), .slice none 0 0, .int .i64 (0), .slice none 0 0])), [3, 1000000001], (some 3), none⟩,
   o4 2 [3, 23] (.store 3 [] 0 .nil (.t 23))])
 (.seq (.join [⟨3, [.i .i64, .sl [.i .i64], .sl [.i .i64, .i .i64], .sl [.sl [.i .i64]], .sl [.i .i64], .i .i64, .i .i64, .i .i64, .i .i64, .i .i64, .i .i64, .i .i64, .sl [.i .i64, .i .i64], .i .i64, .sl [.i .i64, .i .i64, .i .i64, .i .i64, .i .i64, .i .i64]], false⟩] 549739036712 none (.seq (.rg [o1 24 (.idx .nil),
   o1 25 (.load 1 [] 3 (.t 24) 1 false),
   o1 26 (.len 25),
   o1 27 (.lit [.i .i64] [.int .i64 (0)])])
 (.block 0 (.loop [⟨3, [.i .i64, .sl [.i .i64], .sl [.i .i64, .i .i64], .sl [.sl [.i .i64]], .sl [.i .i64], .i .i64, .i .i64, .i .i64, .i .i64, .i .i64, .i .i64, .i .i64, .sl [.i .i64, .i .i64], .i .i64, .sl [.i .i64, .i .i64, .i .i64, .i .i64, .i .i64, .i .i64]], false⟩, ⟨27, [.i .i64], false⟩] 549621596200
  (.seq (.rg [o1 28 (.data (.bin .lss) [.t 27, .t 26])])
  (.seq (.cond (.t 28)
   .skip
   (.exit 0))
  (.seq (.block 1 (.seq (.rg [o1 29 (.index 25 (.t 27)),
    o1 30 (.load 25 [(0, 1)] 0 (.t 29) 1 false),
    o1 5 (.copy 30)])
  (.rg [o1 31 (.idx .nil),
    o1 32 (.load 3 [] 3 (.t 31) 1 true),
    o1 33 (.copy 5),
    o3 34 100 [.t 33],
    ⟨false, [], [], .det 2 (.sli [.sl [.i .i64]] [.t 34]), [35, 34], (some 35), none⟩,
    ⟨false, [32], [], .det 3 (.app (some 32) 35), [36, 32, 35, 32, 3], (some 36), none⟩,
    o1 37 (.idx .nil),
    o4 2 [3, 36, 32] (.store 3 [] 3 (.t 37) (.t 36))])))
  (.rg [o1 38 (.data (.bin .add) [.t 27, .c (.int .i64 (1))]),
    o1 27 (.copy 38)]))))))))
 (.seq (.rg [o1 39 (.load 3 [] 0 .nil 15 true),
   ⟨false, [39], [], .det 2 (.store 2 [] 0 .nil (.t 39)), [2, 39, 39, 3], none, none⟩])
 .ret))))
def s_icopyHead : Sig := ⟨[.rd true [.d, .sl (.own none) [.d], .sl (.own none) [.d, .d], .sl (.own none) [.sl (.own none) [.d]], .sl (.own none) [.d], .d, .d, .d, .d, .d, .d, .d, .sl (.own none) [.d, .d], .d, .sl (.own none) [.d, .d, .d, .d, .d, .d]]], (.one true [.d, .sl (.own none) [.d], .sl (.own none) [.d, .d], .sl (.own none) [.sl (.own none) [.d]], .sl (.own none) [.d], .d, .d, .d, .d, .d, .d, .d, .sl (.own none) [.d, .d], .d, .sl (.own none) [.d, .d, .d, .d, .d, .d]])⟩
noncomputable def E_icopyHead : TEnv := envOf [(100, p_icopyInts), (235, p_icopyEdges), (236, p_icopyTask)]
noncomputable def f_icopyHead (n : Nat) : (Int × List (Int) × List (Int × Int) × List (List (Int)) × List (Int) × Int × Int × Int × Int × Int × Int × Int × List (Int × Int) × Int × List (Int × Int × Int × Int × Int × Int)) → Option ((Int × List (Int) × List (Int × Int) × List (List (Int)) × List (Int) × Int × Int × Int × Int × Int × Int × Int × List (Int × Int) × Int × List (Int × Int × Int × Int × Int × Int)) × Unit) := runFn n E_icopyHead c_icopyHead [[.i .i64, .sl [.i .i64], .sl [.i .i64, .i .i64], .sl [.sl [.i .i64]], .sl [.i .i64], .i .i64, .i .i64, .i .i64, .i .i64, .i .i64, .i .i64, .i .i64, .sl [.i .i64, .i .i64], .i .i64, .sl [.i .i64, .i .i64, .i .i64, .i .i64, .i .i64, .i .i64]]] [.i .i64, .sl [.i .i64], .sl [.i .i64, .i .i64], .sl [.sl [.i .i64]], .sl [.i .i64], .i .i64, .i .i64, .i .i64, .i .i64, .i .i64, .i .i64, .i .i64, .sl [.i .i64, .i .i64], .i .i64, .sl [.i .i64, .i .i64, .i .i64, .i .i64, .i .i64, .i .i64]] [] [2] .no
noncomputable def g_icopyHead := f_icopyHead BIG
noncomputable def p_icopyHead : TSp := ⟨s_icopyHead, [[.i .i64, .sl [.i .i64], .sl [.i .i64, .i .i64], .sl [.sl [.i .i64]], .sl [.i .i64], .i .i64, .i .i64, .i .i64, .i .i64, .i .i64, .i .i64, .i .i64, .sl [.i .i64, .i .i64], .i .i64, .sl [.i .i64, .i .i64, .i .i64, .i .i64, .i .i64, .i .i64]]], [.i .i64, .sl [.i .i64], .sl [.i .i64, .i .i64], .sl [.sl [.i .i64]], .sl [.i .i64], .i .i64, .i .i64, .i .i64, .i .i64, .i .i64, .i .i64, .i .i64, .sl [.i .i64, .i .i64], .i .i64, .sl [.i .i64, .i .i64, .i .i64, .i .i64, .i .i64, .i .i64]], [], Ou.j .no, g_icopyHead⟩
theorem k_icopyHead : chkW PG E_icopyHead 120 s_icopyHead (c_icopyHead.ht 40) .no = some (c_icopyHead.wc E_icopyHead, [2]) := by kernel_rfl
theorem ok_icopyHead : p_icopyHead.Ok PG 120 := mkOk (env_cons ok_icopyInts (env_cons ok_icopyEdges (env_cons ok_icopyTask (env_nil PG)))) k_icopyHead (by kernel_rfl)
theorem e_icopyHead (n : Nat) (a0 : Int × List (Int) × List (Int × Int) × List ((List (Int))) × List (Int) × Int × Int × Int × Int × Int × Int × Int × List (Int × Int) × Int × List (Int × Int × Int × Int × Int × Int)) : f_icopyHead n a0 =
  Option.bind (g_icopyInts a0.2.1) fun r0 =>
  Option.bind (g_icopyEdges a0.2.2.1) fun r1 =>
  Option.bind (g_icopyInts a0.2.2.2.2.1) fun r2 =>
  Option.bind (g_icopyTask (a0.2.2.2.2.2.1, a0.2.2.2.2.2.2.1, a0.2.2.2.2.2.2.2.1, a0.2.2.2.2.2.2.2.2.1, a0.2.2.2.2.2.2.2.2.2.1, a0.2.2.2.2.2.2.2.2.2.2.1, a0.2.2.2.2.2.2.2.2.2.2.2.1, a0.2.2.2.2.2.2.2.2.2.2.2.2.1, a0.2.2.2.2.2.2.2.2.2.2.2.2.2.1)) fun r3 =>
  bif decide (a0.2.2.2.2.2.2.2.2.2.2.2.2.2.2.length ≤ 4294967296) then
   Option.bind (loopT n (X := (Int × List (Int) × List (Int × Int) × List ((List (Int))) × List (Int) × Int × Int × Int × Int × Int × Int × Int × List (Int × Int) × Int × List (Int × Int × Int × Int × Int × Int)) × Int) (B := (Int × List (Int) × List (Int × Int) × List ((List (Int))) × List (Int) × Int × Int × Int × Int × Int × Int × Int × List (Int × Int) × Int × List (Int × Int × Int × Int × Int × Int))) (fun self5 x4 =>
     bif decide (x4.2 < (a0.2.2.2.1.length : Int)) then
      bnd a0.2.2.2.1.length x4.2 fun n6 =>
      Option.bind a0.2.2.2.1[n6]? fun y7 =>
      Option.bind (g_icopyInts y7) fun r8 =>
      bif decide (x4.1.2.2.2.1.length + [r8.1].length ≤ 4294967296) then
       self5 ((x4.1.1, x4.1.2.1, x4.1.2.2.1, x4.1.2.2.2.1 ++ [r8.1], x4.1.2.2.2.2), IntKind.wrap .i64 (x4.2 + (1 : Int)))
      else none
     else some x4.1) ((a0.1, r0.1, r1.1, [], r2.1, r3.1.1, r3.1.2.1, r3.1.2.2.1, r3.1.2.2.2.1, r3.1.2.2.2.2.1, r3.1.2.2.2.2.2.1, r3.1.2.2.2.2.2.2.1, r3.1.2.2.2.2.2.2.2.1, r3.1.2.2.2.2.2.2.2.2, a0.2.2.2.2.2.2.2.2.2.2.2.2.2.2), (0 : Int)) : Option ((Int × List (Int) × List (Int × Int) × List ((List (Int))) × List (Int) × Int × Int × Int × Int × Int × Int × Int × List (Int × Int) × Int × List (Int × Int × Int × Int × Int × Int)))) fun x9 =>
   some (x9, ())
  else none := by kernel_rfl
/- impl.in -/
def c_iin : TC :=
 (.seq (.rg [o1 6 (.lit [.b] [.bool false])])
 (.seq (.join [⟨6, [.b], false⟩] 32704 none (.rg [o1 7 (.copy 0),
   o1 8 (.copy 1),
   o1 9 (.data (.bin .geq) [.t 7, .t 8]),
   o1 10 (.copy 9),
   o2 11 (.copy 0) 3 true,
   o2 12 (.copy 2) 3 true,
   o2 13 (.data (.bin .leq) [.t 11, .t 12]) 3 true,
   ⟨false, [], [], .pick 10 (.t 13) (.c (.bool false)), [14], (some 14), none⟩,
   o1 6 (.copy 14)]))
 .ret))
def s_iin : Sig := ⟨[.rd false [.d], .rd false [.d], .rd false [.d]], (.one false [.d])⟩
noncomputable def E_iin : TEnv := envOf []
noncomputable def f_iin (n : Nat) : Int × Int × Int → Option ((Bool) × Unit) := runFn n E_iin c_iin [[.i .i64], [.i .i64], [.i .i64]] [.b] [] [6] .no
noncomputable def g_iin := f_iin BIG
noncomputable def p_iin : TSp := ⟨s_iin, [[.i .i64], [.i .i64], [.i .i64]], [.b], [], Ou.j .no, g_iin⟩
theorem k_iin : chkW PG E_iin 101 s_iin (c_iin.ht 15) .no = some (c_iin.wc E_iin, [6]) := by kernel_rfl
theorem ok_iin : p_iin.Ok PG 101 := mkOk (env_nil PG) k_iin (by kernel_rfl)
theorem e_iin (n : Nat) (a0 : Int) (a1 : Int) (a2 : Int) : f_iin n (a0, a1, a2) =
  Option.bind (bif decide (a1 ≤ a0) then
    some (decide (a0 ≤ a2))
   else some false : Option (Bool)) fun x0 =>
  some (x0, ()) := by kernel_rfl
/- impl.labelsOk -/
def c_ilabelsOk : TC :=
 (.seq (.rg [o1 4 (.lit [.b] [.bool false])])
 (.seq (.seq (.rg [o1 7 (.copy 1),
   o1 8 (.len 7),
   o1 9 (.copy 0),
   o1 10 (.data (.bin .neq) [.t 8, .t 9])])
 (.cond (.t 10)
  (.seq (.rg [o1 4 (.lit [.b] [.bool false])])
  .ret)
  .skip))
 (.seq (.join [] 2147481712 (some [⟨4, [.b], false⟩]) (.seq (.rg [o1 11 (.copy 1),
   o1 12 (.len 11),
   o1 13 (.lit [.i .i64] [.int .i64 (0)])])
 (.block 0 (.loop [⟨13, [.i .i64], false⟩] 2147475568
  (.seq (.rg [o1 14 (.data (.bin .lss) [.t 13, .t 12])])
  (.seq (.cond (.t 14)
   .skip
   (.exit 0))
  (.seq (.join [] 1073709168 (some [⟨4, [.b], false⟩]) (.block 1 (.seq (.rg [o1 15 (.copy 13),
    o1 16 (.index 11 (.t 13)),
    o1 17 (.load 11 [(0, 1)] 0 (.t 16) 1 false),
    o1 5 (.copy 15),
    o1 6 (.copy 17)])
  (.seq (.join [⟨29, [.b], false⟩] 1073479680 none (.rg [o1 18 (.copy 6),
    o1 19 (.copy 5),
    o3 20 101 [.t 18, .c [.i .i64] [.int .i64 (0)], .t 19],
    o1 21 (.data .not [.t 20]),
    o1 22 (.copy 21),
    o2 23 (.copy 1) 4 false,
    o2 24 (.copy 6) 4 false,
    o2 25 (.index 23 (.t 24)) 4 false,
    o2 26 (.load 23 [(0, 1)] 0 (.t 25) 1 false) 4 false,
    o2 27 (.copy 6) 4 false,
    o2 28 (.data (.bin .neq) [.t 26, .t 27]) 4 false,
    ⟨false, [], [], .pick 22 (.c (.bool true)) (.t 28), [29], (some 29), none⟩]))
  (.cond (.t 29)
   (.seq (.rg [o1 4 (.lit [.b] [.bool false])])
   .ret)
   .skip)))))
  (.rg [o1 30 (.data (.bin .add) [.t 13, .c (.int .i64 (1))]),
    o1 13 (.copy 30)]))))))))
 (.seq (.rg [o1 4 (.lit [.b] [.bool true])])
 .ret))))
def s_ilabelsOk : Sig := ⟨[.rd false [.d], .rd false [.sl (.own none) [.d]]], (.one false [.d])⟩
noncomputable def E_ilabelsOk : TEnv := envOf [(101, p_iin)]
noncomputable def f_ilabelsOk (n : Nat) : Int × List (Int) → Option ((Bool) × Unit) := runFn n E_ilabelsOk c_ilabelsOk [[.i .i64], [.sl [.i .i64]]] [.b] [] [4] .no
noncomputable def g_ilabelsOk := f_ilabelsOk BIG
noncomputable def p_ilabelsOk : TSp := ⟨s_ilabelsOk, [[.i .i64], [.sl [.i .i64]]], [.b], [], Ou.j .no, g_ilabelsOk⟩
theorem k_ilabelsOk : chkW PG E_ilabelsOk 123 s_ilabelsOk (c_ilabelsOk.ht 31) .no = some (c_ilabelsOk.wc E_ilabelsOk, [4]) := by kernel_rfl
theorem ok_ilabelsOk : p_ilabelsOk.Ok PG 123 := mkOk (env_cons ok_iin (env_nil PG)) k_ilabelsOk (by kernel_rfl)
theorem e_ilabelsOk (n : Nat) (a0 : Int) (a1 : List (Int)) : f_ilabelsOk n (a0, a1) =
  bif !decide ((a1.length : Int) = a0) then
   some (false, ())
  else Option.bind (loopT n (X := Int) (B := (Unit) ⊕ (Bool)) (fun self1 x0 =>
    bif decide (x0 < (a1.length : Int)) then
     Option.bind (bnd a1.length x0 fun n2 =>
      Option.bind a1[n2]? fun y3 =>
      Option.bind (Option.bind (g_iin (y3, (0 : Int), x0)) fun r4 =>
       bif !r4.1 then
        some true
       else bnd a1.length y3 fun n5 =>
       Option.bind a1[n5]? fun y6 =>
       some (!decide (y6 = y3)) : Option (Bool)) fun x7 =>
      bif x7 then
       some (Sum.inr false)
      else some (Sum.inl ()) : Option ((Unit) ⊕ (Bool))) fun y => match y with
     | .inl x8 =>
      self1 (IntKind.wrap .i64 (x0 + (1 : Int)))
     | .inr x8 =>
      some (Sum.inr x8)
    else some (Sum.inl ())) (0 : Int) : Option ((Unit) ⊕ (Bool))) fun y => match y with
  | .inl x9 =>
   some (true, ())
  | .inr x9 =>
   some (x9, ()) := by kernel_rfl
/- impl.EdgeOk -/
def c_iEdgeOk : TC :=
 (.seq (.rg [o1 3 (.a (.t 1)),
   o1 4 (.lit [.b] [.bool false])])
 (.seq (.join [⟨4, [.b], false⟩] 268435440 none (.rg [o1 5 (.copy 0),
   o3 6 101 [.t 5, .c [.i .i64] [.int .i64 (1)], .c [.i .i64] [.int .i64 (12)]],
   o1 7 (.copy 6),
   o2 8 (.idx .nil) 2 true,
   o2 9 (.load 3 [] 0 (.t 8) 1 false) 2 true,
   o2 10 (.copy 0) 2 true,
   o2 11 (.data (.bin .sub) [.t 10, .c (.int .i64 (1))]) 2 true,
   ⟨false, [], [], .call 1 101 [.t 9, .c [.i .i64] [.int .i64 (0)], .t 11] .no, [12], (some 12), some (2, true)⟩,
   ⟨false, [], [], .pick 7 (.t 12) (.c (.bool false)), [13], (some 13), none⟩,
   o1 14 (.copy 13),
   o2 15 (.idx .nil) 9 true,
   o2 16 (.load 3 [] 1 (.t 15) 1 false) 9 true,
   o2 17 (.copy 0) 9 true,
   o2 18 (.data (.bin .sub) [.t 17, .c (.int .i64 (1))]) 9 true,
   ⟨false, [], [], .call 1 101 [.t 16, .c [.i .i64] [.int .i64 (0)], .t 18] .no, [19], (some 19), some (9, true)⟩,
   ⟨false, [], [], .pick 14 (.t 19) (.c (.bool false)), [20], (some 20), none⟩,
   o1 21 (.copy 20),
   o2 22 (.idx .nil) 16 true,
   o2 23 (.load 3 [] 0 (.t 22) 1 false) 16 true,
   o2 24 (.idx .nil) 16 true,
   o2 25 (.load 3 [] 1 (.t 24) 1 false) 16 true,
   o2 26 (.data (.bin .lss) [.t 23, .t 25]) 16 true,
   ⟨false, [], [], .pick 21 (.t 26) (.c (.bool false)), [27], (some 27), none⟩,
   o1 4 (.copy 27)]))
 .ret))
def s_iEdgeOk : Sig := ⟨[.rd false [.d], .rd true [.d, .d]], (.one false [.d])⟩
noncomputable def E_iEdgeOk : TEnv := envOf [(101, p_iin)]
noncomputable def f_iEdgeOk (n : Nat) : Int × (Int × Int) → Option ((Bool) × Unit) := runFn n E_iEdgeOk c_iEdgeOk [[.i .i64], [.i .i64, .i .i64]] [.b] [] [4] .no
noncomputable def g_iEdgeOk := f_iEdgeOk BIG
noncomputable def p_iEdgeOk : TSp := ⟨s_iEdgeOk, [[.i .i64], [.i .i64, .i .i64]], [.b], [], Ou.j .no, g_iEdgeOk⟩
theorem k_iEdgeOk : chkW PG E_iEdgeOk 113 s_iEdgeOk (c_iEdgeOk.ht 28) .no = some (c_iEdgeOk.wc E_iEdgeOk, [4]) := by kernel_rfl
theorem ok_iEdgeOk : p_iEdgeOk.Ok PG 113 := mkOk (env_cons ok_iin (env_nil PG)) k_iEdgeOk (by kernel_rfl)
theorem e_iEdgeOk (n : Nat) (a0 : Int) (a1 : Int × Int) : f_iEdgeOk n (a0, a1) =
  Option.bind (Option.bind (g_iin (a0, (1 : Int), (12 : Int))) fun r0 =>
   bif r0.1 then
    Option.bind (g_iin (a1.1, (0 : Int), IntKind.wrap .i64 (a0 - (1 : Int)))) fun r1 =>
    bif r1.1 then
     Option.bind (g_iin (a1.2, (0 : Int), IntKind.wrap .i64 (a0 - (1 : Int)))) fun r2 =>
     bif r2.1 then
      some (decide (a1.1 < a1.2))
     else some false
    else some false
   else some false : Option (Bool)) fun x3 =>
  some (x3, ()) := by kernel_rfl
/- impl.ahead -/
def c_iahead : TC :=
 (.seq (.rg [o1 2 (.a (.t 0)),
   o1 3 (.a (.t 1)),
   o1 4 (.lit [.b] [.bool false])])
 (.seq (.join [⟨4, [.b], false⟩] 16777200 none (.rg [o1 5 (.idx .nil),
   o1 6 (.load 2 [] 0 (.t 5) 1 false),
   o1 7 (.idx .nil),
   o1 8 (.load 3 [] 0 (.t 7) 1 false),
   o1 9 (.data (.bin .lss) [.t 6, .t 8]),
   o1 10 (.copy 9),
   o2 11 (.idx .nil) 5 false,
   o2 12 (.load 2 [] 0 (.t 11) 1 false) 5 false,
   o2 13 (.idx .nil) 5 false,
   o2 14 (.load 3 [] 0 (.t 13) 1 false) 5 false,
   o2 15 (.data (.bin .eql) [.t 12, .t 14]) 5 false,
   o2 16 (.copy 15) 5 false,
   o2 17 (.idx .nil) 11 true,
   o2 18 (.load 2 [] 1 (.t 17) 1 false) 11 true,
   o2 19 (.idx .nil) 11 true,
   o2 20 (.load 3 [] 1 (.t 19) 1 false) 11 true,
   o2 21 (.data (.bin .lss) [.t 18, .t 20]) 11 true,
   ⟨false, [], [], .pick 16 (.t 21) (.c (.bool false)), [22], (some 22), some (5, false)⟩,
   ⟨false, [], [], .pick 10 (.c (.bool true)) (.t 22), [23], (some 23), none⟩,
   o1 4 (.copy 23)]))
 .ret))
def s_iahead : Sig := ⟨[.rd true [.d, .d], .rd true [.d, .d]], (.one false [.d])⟩
noncomputable def E_iahead : TEnv := envOf []
noncomputable def f_iahead (n : Nat) : (Int × Int) × (Int × Int) → Option ((Bool) × Unit) := runFn n E_iahead c_iahead [[.i .i64, .i .i64], [.i .i64, .i .i64]] [.b] [] [4] .no
noncomputable def g_iahead := f_iahead BIG
noncomputable def p_iahead : TSp := ⟨s_iahead, [[.i .i64, .i .i64], [.i .i64, .i .i64]], [.b], [], Ou.j .no, g_iahead⟩
theorem k_iahead : chkW PG E_iahead 234 s_iahead (c_iahead.ht 24) .no = some (c_iahead.wc E_iahead, [4]) := by kernel_rfl
theorem ok_iahead : p_iahead.Ok PG 234 := mkOk (env_nil PG) k_iahead (by kernel_rfl)
theorem e_iahead (n : Nat) (a0 : Int × Int) (a1 : Int × Int) : f_iahead n (a0, a1) =
  Option.bind (bif decide (a0.1 < a1.1) then
    some true
   else bif decide (a0.1 = a1.1) then
    some (decide (a0.2 < a1.2))
   else some false : Option (Bool)) fun x0 =>
  some (x0, ()) := by kernel_rfl
/- impl.edgesOk -/
def c_iedgesOk : TC :=
 (.seq (.rg [o1 4 (.lit [.b] [.bool false])])
 (.seq (.join [] 8589934576 (some [⟨4, [.b], false⟩]) (.seq (.rg [o1 7 (.copy 1),
   o1 8 (.len 7),
   o1 9 (.lit [.i .i64] [.int .i64 (0)])])
 (.block 0 (.loop [⟨9, [.i .i64], false⟩] 8589934192
  (.seq (.rg [o1 10 (.data (.bin .lss) [.t 9, .t 8])])
  (.seq (.cond (.t 10)
   .skip
   (.exit 0))
  (.seq (.join [] 4294965360 (some [⟨4, [.b], false⟩]) (.block 1 (.seq (.rg [o1 11 (.copy 9),
    o1 12 (.index 7 (.t 9)),
    o1 13 (.load 7 [(0, 2)] 0 (.t 12) 2 false),
    ⟨false, [], [], .det 2 (.a (.c [.i .i64, .i .i64] [.int .i64 (0), .int .i64 (0)])), [6, 1000000001], (some 6), none⟩,
    o1 5 (.copy 11),
    o4 1 [6] (.store 6 [] 0 .nil (.t 13))])
  (.seq (.join [⟨31, [.b], false⟩] 4294950912 none (.rg [o1 14 (.copy 0),
    o1 15 (.load 6 [] 0 .nil 2 false),
    o3 16 113 [.t 14, .t 15],
    o1 17 (.data .not [.t 16]),
    o1 18 (.copy 17),
    o2 19 (.copy 5) 4 false,
    o2 20 (.data (.bin .gtr) [.t 19, .c (.int .i64 (0))]) 4 false,
    o2 21 (.copy 20) 4 false,
    o2 22 (.copy 1) 7 true,
    o2 23 (.copy 5) 7 true,
    o2 24 (.data (.bin .sub) [.t 23, .c (.int .i64 (1))]) 7 true,
    o2 25 (.index 22 (.t 24)) 7 true,
    o2 26 (.load 22 [(0, 2)] 0 (.t 25) 2 false) 7 true,
    o2 27 (.load 6 [] 0 .nil 2 false) 7 true,
    ⟨false, [], [], .call 1 234 [.t 26, .t 27] .no, [28], (some 28), some (7, true)⟩,
    o2 29 (.data .not [.t 28]) 7 true,
    ⟨false, [], [], .pick 21 (.t 29) (.c (.bool false)), [30], (some 30), some (4, false)⟩,
    ⟨false, [], [], .pick 18 (.c (.bool true)) (.t 30), [31], (some 31), none⟩]))
  (.cond (.t 31)
   (.seq (.rg [o1 4 (.lit [.b] [.bool false])])
   .ret)
   .skip)))))
  (.rg [o1 32 (.data (.bin .add) [.t 9, .c (.int .i64 (1))]),
    o1 9 (.copy 32)]))))))))
 (.seq (.rg [o1 33 (.copy 1),
   o1 34 (.len 33),
   o1 35 (.data (.bin .leq) [.t 34, .c (.int .i64 (66))]),
   o1 4 (.copy 35)])
 .ret)))
def s_iedgesOk : Sig := ⟨[.rd false [.d], .rd false [.sl (.own none) [.d, .d]]], (.one false [.d])⟩
noncomputable def E_iedgesOk : TEnv := envOf [(113, p_iEdgeOk), (234, p_iahead)]
noncomputable def f_iedgesOk (n : Nat) : Int × (List (Int × Int)) → Option ((Bool) × Unit) := runFn n E_iedgesOk c_iedgesOk [[.i .i64], [.sl [.i .i64, .i .i64]]] [.b] [] [4] .no
noncomputable def g_iedgesOk := f_iedgesOk BIG
noncomputable def p_iedgesOk : TSp := ⟨s_iedgesOk, [[.i .i64], [.sl [.i .i64, .i .i64]]], [.b], [], Ou.j .no, g_iedgesOk⟩
theorem k_iedgesOk : chkW PG E_iedgesOk 232 s_iedgesOk (c_iedgesOk.ht 36) .no = some (c_iedgesOk.wc E_iedgesOk, [4]) := by kernel_rfl
theorem ok_iedgesOk : p_iedgesOk.Ok PG 232 := mkOk (env_cons ok_iEdgeOk (env_cons ok_iahead (env_nil PG))) k_iedgesOk (by kernel_rfl)
theorem e_iedgesOk (n : Nat) (a0 : Int) (a1 : List (Int × Int)) : f_iedgesOk n (a0, a1) =
  Option.bind (loopT n (X := Int) (B := (Unit) ⊕ (Bool)) (fun self1 x0 =>
    bif decide (x0 < (a1.length : Int)) then
     Option.bind (bnd a1.length x0 fun n2 =>
      Option.bind a1[n2]? fun y3 =>
      Option.bind (Option.bind (g_iEdgeOk (a0, y3)) fun r4 =>
       bif !r4.1 then
        some true
       else bif decide ((0 : Int) < x0) then
        bnd a1.length (IntKind.wrap .i64 (x0 - (1 : Int))) fun n5 =>
        Option.bind a1[n5]? fun y6 =>
        Option.bind (g_iahead (y6, y3)) fun r7 =>
        some !r7.1
       else some false : Option (Bool)) fun x8 =>
      bif x8 then
       some (Sum.inr false)
      else some (Sum.inl ()) : Option ((Unit) ⊕ (Bool))) fun y => match y with
     | .inl x9 =>
      self1 (IntKind.wrap .i64 (x0 + (1 : Int)))
     | .inr x9 =>
      some (Sum.inr x9)
    else some (Sum.inl ())) (0 : Int) : Option ((Unit) ⊕ (Bool))) fun y => match y with
  | .inl x10 =>
   some (decide ((a1.length : Int) ≤ (66 : Int)), ())
  | .inr x10 =>
   some (x10, ()) := by kernel_rfl
/- impl.ownOk -/
def c_iownOk : TC :=
 (.seq (.rg [o1 1 (.a (.t 0)),
   o1 2 (.lit [.b] [.bool false])])
 (.seq (.seq (.join [⟨20, [.b], false⟩] 2097024 none (.rg [o1 7 (.idx .nil),
   o1 8 (.load 1 [] 1 (.t 7) 1 false),
   o1 9 (.len 8),
   o1 10 (.idx .nil),
   o1 11 (.load 1 [] 0 (.t 10) 1 false),
   o1 12 (.data (.bin .neq) [.t 9, .t 11]),
   o1 13 (.copy 12),
   o2 14 (.idx .nil) 6 false,
   o2 15 (.load 1 [] 0 (.t 14) 1 false) 6 false,
   o2 16 (.idx .nil) 6 false,
   o2 17 (.load 1 [] 2 (.t 16) 1 false) 6 false,
   ⟨false, [], [], .call 1 232 [.t 15, .t 17] .no, [18], (some 18), some (6, false)⟩,
   o2 19 (.data .not [.t 18]) 6 false,
   ⟨false, [], [], .pick 13 (.c (.bool true)) (.t 19), [20], (some 20), none⟩]))
 (.cond (.t 20)
  (.seq (.rg [o1 2 (.lit [.b] [.bool false])])
  .ret)
  .skip))
 (.seq (.join [] 34357641236 (some [⟨2, [.b], false⟩]) (.seq (.rg [o1 21 (.idx .nil),
   o1 22 (.load 1 [] 1 (.t 21) 1 false),
   o1 23 (.len 22),
   o1 24 (.lit [.i .i64] [.int .i64 (0)])])
 (.block 0 (.loop [⟨24, [.i .i64], false⟩] 34342961172
  (.seq (.rg [o1 25 (.data (.bin .lss) [.t 24, .t 23])])
  (.seq (.cond (.t 25)
   .skip
   (.exit 0))
  (.seq (.block 1 (.seq (.rg [o1 26 (.index 22 (.t 24)),
    o1 27 (.load 22 [(0, 1)] 0 (.t 26) 1 false),
    o1 4 (.copy 27)])
  (.seq (.rg [o1 28 (.copy 4),
    o1 29 (.idx .nil),
    o1 30 (.load 1 [] 3 (.t 29) 1 false),
    o1 31 (.len 30),
    o3 32 101 [.t 28, .c [.i .i64] [.int .i64 (1)], .t 31],
    o1 33 (.data .not [.t 32])])
  (.cond (.t 33)
   (.seq (.rg [o1 2 (.lit [.b] [.bool false])])
   .ret)
   .skip))))
  (.rg [o1 34 (.data (.bin .add) [.t 24, .c (.int .i64 (1))]),
    o1 24 (.copy 34)]))))))))
 (.seq (.join [] 72057559678189636 (some [⟨2, [.b], false⟩]) (.seq (.rg [o1 35 (.idx .nil),
   o1 36 (.load 1 [] 2 (.t 35) 1 false),
   o1 37 (.len 36),
   o1 38 (.lit [.i .i64] [.int .i64 (0)])])
 (.block 2 (.loop [⟨38, [.i .i64], false⟩] 72057319160021060
  (.seq (.rg [o1 39 (.data (.bin .lss) [.t 38, .t 37])])
  (.seq (.cond (.t 39)
   .skip
   (.exit 2))
  (.seq (.block 3 (.seq (.rg [o1 40 (.index 36 (.t 38)),
    o1 41 (.load 36 [(0, 2)] 0 (.t 40) 2 false),
    ⟨false, [], [], .det 2 (.a (.c [.i .i64, .i .i64] [.int .i64 (0), .int .i64 (0)])), [6, 1000000001], (some 6), none⟩,
    o4 1 [6] (.store 6 [] 0 .nil (.t 41))])
  (.seq (.rg [o1 42 (.idx .nil),
    o1 43 (.load 1 [] 1 (.t 42) 1 false),
    o1 44 (.idx .nil),
    o1 45 (.load 6 [] 0 (.t 44) 1 false),
    o1 46 (.index 43 (.t 45)),
    o1 47 (.load 43 [(0, 1)] 0 (.t 46) 1 false),
    o1 48 (.idx .nil),
    o1 49 (.load 1 [] 1 (.t 48) 1 false),
    o1 50 (.idx .nil),
    o1 51 (.load 6 [] 1 (.t 50) 1 false),
    o1 52 (.index 49 (.t 51)),
    o1 53 (.load 49 [(0, 1)] 0 (.t 52) 1 false),
    o1 54 (.data (.bin .eql) [.t 47, .t 53])])
  (.cond (.t 54)
   (.seq (.rg [o1 2 (.lit [.b] [.bool false])])
   .ret)
   .skip))))
  (.rg [o1 55 (.data (.bin .add) [.t 38, .c (.int .i64 (1))]),
    o1 38 (.copy 55)]))))))))
 (.seq (.rg [o1 2 (.lit [.b] [.bool true])])
 .ret)))))
def s_iownOk : Sig := ⟨[.rd true [.d, .sl (.own none) [.d], .sl (.own none) [.d, .d], .sl (.own none) [.sl (.own none) [.d]], .sl (.own none) [.d], .d, .d, .d, .d, .d, .d, .d, .sl (.own none) [.d, .d], .d, .sl (.own none) [.d, .d, .d, .d, .d, .d]]], (.one false [.d])⟩
noncomputable def E_iownOk : TEnv := envOf [(232, p_iedgesOk), (101, p_iin)]
noncomputable def f_iownOk (n : Nat) : (Int × List (Int) × List (Int × Int) × List (List (Int)) × List (Int) × Int × Int × Int × Int × Int × Int × Int × List (Int × Int) × Int × List (Int × Int × Int × Int × Int × Int)) → Option ((Bool) × Unit) := runFn n E_iownOk c_iownOk [[.i .i64, .sl [.i .i64], .sl [.i .i64, .i .i64], .sl [.sl [.i .i64]], .sl [.i .i64], .i .i64, .i .i64, .i .i64, .i .i64, .i .i64, .i .i64, .i .i64, .sl [.i .i64, .i .i64], .i .i64, .sl [.i .i64, .i .i64, .i .i64, .i .i64, .i .i64, .i .i64]]] [.b] [] [2] .no
noncomputable def g_iownOk := f_iownOk BIG
noncomputable def p_iownOk : TSp := ⟨s_iownOk, [[.i .i64, .sl [.i .i64], .sl [.i .i64, .i .i64], .sl [.sl [.i .i64]], .sl [.i .i64], .i .i64, .i .i64, .i .i64, .i .i64, .i .i64, .i .i64, .i .i64, .sl [.i .i64, .i .i64], .i .i64, .sl [.i .i64, .i .i64, .i .i64, .i .i64, .i .i64, .i .i64]]], [.b], [], Ou.j .no, g_iownOk⟩
theorem k_iownOk : chkW PG E_iownOk 124 s_iownOk (c_iownOk.ht 56) .no = some (c_iownOk.wc E_iownOk, [2]) := by kernel_rfl
theorem ok_iownOk : p_iownOk.Ok PG 124 := mkOk (env_cons ok_iedgesOk (env_cons ok_iin (env_nil PG))) k_iownOk (by kernel_rfl)
theorem e_iownOk (n : Nat) (a0 : Int × List (Int) × List (Int × Int) × List ((List (Int))) × List (Int) × Int × Int × Int × Int × Int × Int × Int × List (Int × Int) × Int × List (Int × Int × Int × Int × Int × Int)) : f_iownOk n a0 =
  Option.bind (bif !decide ((a0.2.1.length : Int) = a0.1) then
    some true
   else Option.bind (g_iedgesOk (a0.1, a0.2.2.1)) fun r0 =>
   some !r0.1 : Option (Bool)) fun x1 =>
  bif x1 then
   some (false, ())
  else Option.bind (loopT n (X := Int) (B := (Unit) ⊕ (Bool)) (fun self3 x2 =>
    bif decide (x2 < (a0.2.1.length : Int)) then
     bnd a0.2.1.length x2 fun n4 =>
     Option.bind a0.2.1[n4]? fun y5 =>
     Option.bind (g_iin (y5, (1 : Int), (a0.2.2.2.1.length : Int))) fun r6 =>
     bif !r6.1 then
      some (Sum.inr false)
     else self3 (IntKind.wrap .i64 (x2 + (1 : Int)))
    else some (Sum.inl ())) (0 : Int) : Option ((Unit) ⊕ (Bool))) fun y => match y with
  | .inl x7 =>
   Option.bind (loopT n (X := Int) (B := (Unit) ⊕ (Bool)) (fun self9 x8 =>
     bif decide (x8 < (a0.2.2.1.length : Int)) then
      bnd a0.2.2.1.length x8 fun n10 =>
      Option.bind a0.2.2.1[n10]? fun y11 =>
      bnd a0.2.1.length y11.1 fun n12 =>
      Option.bind a0.2.1[n12]? fun y13 =>
      bnd a0.2.1.length y11.2 fun n14 =>
      Option.bind a0.2.1[n14]? fun y15 =>
      bif decide (y13 = y15) then
       some (Sum.inr false)
      else self9 (IntKind.wrap .i64 (x8 + (1 : Int)))
     else some (Sum.inl ())) (0 : Int) : Option ((Unit) ⊕ (Bool))) fun y => match y with
   | .inl x16 =>
    some (true, ())
   | .inr x16 =>
    some (x16, ())
  | .inr x7 =>
   some (x7, ()) := by kernel_rfl
/- impl.saidAt -/
def c_isaidAt : TC :=
 (.seq (.rg [o1 4 (.lit [.i .i64] [.int .i64 (0)])])
 (.seq (.join [] 1048560 (some [⟨4, [.i .i64], false⟩]) (.seq (.rg [o1 7 (.copy 0),
   o1 8 (.len 7),
   o1 9 (.lit [.i .i64] [.int .i64 (0)])])
 (.block 0 (.loop [⟨9, [.i .i64], false⟩] 1048176
  (.seq (.rg [o1 10 (.data (.bin .lss) [.t 9, .t 8])])
  (.seq (.cond (.t 10)
   .skip
   (.exit 0))
  (.seq (.block 1 (.seq (.rg [o1 11 (.copy 9),
    o1 12 (.index 7 (.t 9)),
    o1 13 (.load 7 [(0, 6)] 0 (.t 12) 6 false),
    ⟨false, [], [], .det 2 (.a (.c [.i .i64, .i .i64, .i .i64, .i .i64, .i .i64, .i .i64] [.int .i64 (0), .int .i64 (0), .int .i64 (0), .int .i64 (0), .int .i64 (0), .int .i64 (0)])), [6, 1000000001], (some 6), none⟩,
    o1 5 (.copy 11),
    o4 1 [6] (.store 6 [] 0 .nil (.t 13))])
  (.seq (.rg [o1 14 (.idx .nil),
    o1 15 (.load 6 [] 0 (.t 14) 1 false),
    o1 16 (.copy 1),
    o1 17 (.data (.bin .eql) [.t 15, .t 16])])
  (.cond (.t 17)
   (.seq (.rg [o1 18 (.copy 5),
     o1 4 (.copy 18)])
   .ret)
   .skip))))
  (.rg [o1 19 (.data (.bin .add) [.t 9, .c (.int .i64 (1))]),
    o1 9 (.copy 19)]))))))))
 (.seq (.rg [o1 4 (.lit [.i .i64] [.int .i64 (-1)])])
 .ret)))
def s_isaidAt : Sig := ⟨[.rd false [.sl (.own none) [.d, .d, .d, .d, .d, .d]], .rd false [.d]], (.one false [.d])⟩
noncomputable def E_isaidAt : TEnv := envOf []
noncomputable def f_isaidAt (n : Nat) : (List (Int × Int × Int × Int × Int × Int)) × Int → Option ((Int) × Unit) := runFn n E_isaidAt c_isaidAt [[.sl [.i .i64, .i .i64, .i .i64, .i .i64, .i .i64, .i .i64]], [.i .i64]] [.i .i64] [] [4] .no
noncomputable def g_isaidAt := f_isaidAt BIG
noncomputable def p_isaidAt : TSp := ⟨s_isaidAt, [[.sl [.i .i64, .i .i64, .i .i64, .i .i64, .i .i64, .i .i64]], [.i .i64]], [.i .i64], [], Ou.j .no, g_isaidAt⟩
theorem k_isaidAt : chkW PG E_isaidAt 121 s_isaidAt (c_isaidAt.ht 20) .no = some (c_isaidAt.wc E_isaidAt, [4]) := by kernel_rfl
theorem ok_isaidAt : p_isaidAt.Ok PG 121 := mkOk (env_nil PG) k_isaidAt (by kernel_rfl)
theorem e_isaidAt (n : Nat) (a0 : List (Int × Int × Int × Int × Int × Int)) (a1 : Int) : f_isaidAt n (a0, a1) =
  Option.bind (loopT n (X := Int) (B := (Unit) ⊕ (Int)) (fun self1 x0 =>
    bif decide (x0 < (a0.length : Int)) then
     bnd a0.length x0 fun n2 =>
     Option.bind a0[n2]? fun y3 =>
     bif decide (y3.1 = a1) then
      some (Sum.inr x0)
     else self1 (IntKind.wrap .i64 (x0 + (1 : Int)))
    else some (Sum.inl ())) (0 : Int) : Option ((Unit) ⊕ (Int))) fun y => match y with
  | .inl x4 =>
   some ((-1 : Int), ())
  | .inr x4 =>
   some (x4, ()) := by kernel_rfl
/- impl.saidOk -/
def c_isaidOk : TC :=
 (.seq (.rg [o1 2 (.lit [.b] [.bool false])])
 (.seq (.join [] 17179869180 (some [⟨2, [.b], false⟩]) (.seq (.rg [o1 5 (.copy 0),
   o1 6 (.len 5),
   o1 7 (.lit [.i .i64] [.int .i64 (0)])])
 (.block 0 (.loop [⟨7, [.i .i64], false⟩] 17179869084
  (.seq (.rg [o1 8 (.data (.bin .lss) [.t 7, .t 6])])
  (.seq (.cond (.t 8)
   .skip
   (.exit 0))
  (.seq (.join [] 8589934108 (some [⟨2, [.b], false⟩]) (.block 1 (.seq (.rg [o1 9 (.copy 7),
    o1 10 (.index 5 (.t 7)),
    o1 11 (.load 5 [(0, 6)] 0 (.t 10) 6 false),
    ⟨false, [], [], .det 2 (.a (.c [.i .i64, .i .i64, .i .i64, .i .i64, .i .i64, .i .i64] [.int .i64 (0), .int .i64 (0), .int .i64 (0), .int .i64 (0), .int .i64 (0), .int .i64 (0)])), [4, 1000000001], (some 4), none⟩,
    o1 3 (.copy 9),
    o4 1 [4] (.store 4 [] 0 .nil (.t 11))])
  (.seq (.join [⟨32, [.b], false⟩] 8589930496 none (.rg [o1 12 (.idx .nil),
    o1 13 (.load 4 [] 0 (.t 12) 1 false),
    o1 14 (.idx .nil),
    o1 15 (.idx (.t 14)),
    o1 16 (.load 4 [] 1 (.t 15) 1 false),
    o1 17 (.data (.bin .neq) [.t 13, .t 16]),
    o1 18 (.copy 17),
    o2 19 (.idx .nil) 6 false,
    o2 20 (.load 4 [] 5 (.t 19) 1 false) 6 false,
    ⟨false, [], [], .call 1 101 [.t 20, .c [.i .i64] [.int .i64 (1)], .c [.i .i64] [.int .i64 (3)]] .no, [21], (some 21), some (6, false)⟩,
    o2 22 (.data .not [.t 21]) 6 false,
    ⟨false, [], [], .pick 18 (.c (.bool true)) (.t 22), [23], (some 23), none⟩,
    o1 24 (.copy 23),
    o2 25 (.copy 0) 12 false,
    o2 26 (.copy 3) 12 false,
    o2 27 (.res 25 none (some (.t 26))) 12 false,
    o2 28 (.idx .nil) 12 false,
    o2 29 (.load 4 [] 0 (.t 28) 1 false) 12 false,
    ⟨false, [], [], .call 1 121 [.t 27, .t 29] .no, [30], (some 30), some (12, false)⟩,
    o2 31 (.data (.bin .geq) [.t 30, .c (.int .i64 (0))]) 12 false,
    ⟨false, [], [], .pick 24 (.c (.bool true)) (.t 31), [32], (some 32), none⟩]))
  (.cond (.t 32)
   (.seq (.rg [o1 2 (.lit [.b] [.bool false])])
   .ret)
   .skip)))))
  (.rg [o1 33 (.data (.bin .add) [.t 7, .c (.int .i64 (1))]),
    o1 7 (.copy 33)]))))))))
 (.seq (.rg [o1 34 (.copy 0),
   o1 35 (.len 34),
   o1 36 (.data (.bin .leq) [.t 35, .c (.int .i64 (80))]),
   o1 2 (.copy 36)])
 .ret)))
def s_isaidOk : Sig := ⟨[.rd false [.sl (.own none) [.d, .d, .d, .d, .d, .d]]], (.one false [.d])⟩
noncomputable def E_isaidOk : TEnv := envOf [(101, p_iin), (121, p_isaidAt)]
noncomputable def f_isaidOk (n : Nat) : (List (Int × Int × Int × Int × Int × Int)) → Option ((Bool) × Unit) := runFn n E_isaidOk c_isaidOk [[.sl [.i .i64, .i .i64, .i .i64, .i .i64, .i .i64, .i .i64]]] [.b] [] [2] .no
noncomputable def g_isaidOk := f_isaidOk BIG
noncomputable def p_isaidOk : TSp := ⟨s_isaidOk, [[.sl [.i .i64, .i .i64, .i .i64, .i .i64, .i .i64, .i .i64]]], [.b], [], Ou.j .no, g_isaidOk⟩
theorem k_isaidOk : chkW PG E_isaidOk 125 s_isaidOk (c_isaidOk.ht 37) .no = some (c_isaidOk.wc E_isaidOk, [2]) := by kernel_rfl
theorem ok_isaidOk : p_isaidOk.Ok PG 125 := mkOk (env_cons ok_iin (env_cons ok_isaidAt (env_nil PG))) k_isaidOk (by kernel_rfl)
theorem e_isaidOk (n : Nat) (a0 : List (Int × Int × Int × Int × Int × Int)) : f_isaidOk n a0 =
  Option.bind (loopT n (X := Int) (B := (Unit) ⊕ (Bool)) (fun self1 x0 =>
    bif decide (x0 < (a0.length : Int)) then
     Option.bind (bnd a0.length x0 fun n2 =>
      Option.bind a0[n2]? fun y3 =>
      Option.bind (bif !decide (y3.1 = y3.2.1) then
        some true
       else Option.bind (g_iin (y3.2.2.2.2.2, (1 : Int), (3 : Int))) fun r4 =>
       bif !r4.1 then
        some true
       else bif decide (0 ≤ x0) then
        bif decide (0 ≤ (Int.toNat x0) ∧ (Int.toNat x0) ≤ a0.length) then
         Option.bind (g_isaidAt (List.take ((Int.toNat x0) - 0) (List.drop 0 a0), y3.1)) fun r5 =>
         some (decide ((0 : Int) ≤ r5.1))
        else none
       else none : Option (Bool)) fun x6 =>
      bif x6 then
       some (Sum.inr false)
      else some (Sum.inl ()) : Option ((Unit) ⊕ (Bool))) fun y => match y with
     | .inl x7 =>
      self1 (IntKind.wrap .i64 (x0 + (1 : Int)))
     | .inr x7 =>
      some (Sum.inr x7)
    else some (Sum.inl ())) (0 : Int) : Option ((Unit) ⊕ (Bool))) fun y => match y with
  | .inl x8 =>
   some (decide ((a0.length : Int) ≤ (80 : Int)), ())
  | .inr x8 =>
   some (x8, ()) := by kernel_rfl
/- impl.noTask -/
def c_inoTask : TC :=
 (.seq (.rg [o1 1 (.a (.t 0)),
   o1 2 (.lit [.b] [.bool false])])
 (.seq (.rg [o1 4 (.idx .nil),
   o1 5 (.load 1 [] 5 (.t 4) 4 false),
   ⟨false, [], [], .det 2 (.a (.c [.i .i64, .i .i64, .sl [.i .i64, .i .i64], .i .i64] [.int .i64 (0), .int .i64 (0), .slice none 0 0, .int .i64 (0)])), [3, 1000000001], (some 3), none⟩,
   o4 1 [3] (.store 3 [] 0 .nil (.t 5))])
 (.seq (.join [⟨2, [.b], false⟩] 68719476676 none (.rg [o1 6 (.idx .nil),
   o1 7 (.load 1 [] 0 (.t 6) 4 false),
   o1 8 (.build [.i .i64, .i .i64, .i .i64, .i .i64] []),
   o1 9 (.eqA [.i, .i, .i, .i] (.t 7) (.t 8) false),
   o1 10 (.copy 9),
   o2 11 (.idx .nil) 4 true,
   o2 12 (.load 1 [] 4 (.t 11) 1 false) 4 true,
   o2 13 (.data (.bin .eql) [.t 12, .c (.int .i64 (0))]) 4 true,
   ⟨false, [], [], .pick 10 (.t 13) (.c (.bool false)), [14], (some 14), none⟩,
   o1 15 (.copy 14),
   o2 16 (.idx .nil) 9 true,
   o2 17 (.load 3 [] 0 (.t 16) 1 false) 9 true,
   o2 18 (.data (.bin .eql) [.t 17, .c (.int .i64 (0))]) 9 true,
   ⟨false, [], [], .pick 15 (.t 18) (.c (.bool false)), [19], (some 19), none⟩,
   o1 20 (.copy 19),
   o2 21 (.idx .nil) 14 true,
   o2 22 (.load 3 [] 1 (.t 21) 1 false) 14 true,
   o2 23 (.data (.bin .eql) [.t 22, .c (.int .i64 (0))]) 14 true,
   ⟨false, [], [], .pick 20 (.t 23) (.c (.bool false)), [24], (some 24), none⟩,
   o1 25 (.copy 24),
   o2 26 (.idx .nil) 19 true,
   o2 27 (.load 3 [] 2 (.t 26) 1 false) 19 true,
   o2 28 (.len 27) 19 true,
   o2 29 (.data (.bin .eql) [.t 28, .c (.int .i64 (0))]) 19 true,
   ⟨false, [], [], .pick 25 (.t 29) (.c (.bool false)), [30], (some 30), none⟩,
   o1 31 (.copy 30),
   o2 32 (.idx .nil) 25 true,
   o2 33 (.load 3 [] 3 (.t 32) 1 false) 25 true,
   o2 34 (.data (.bin .eql) [.t 33, .c (.int .i64 (0))]) 25 true,
   ⟨false, [], [], .pick 31 (.t 34) (.c (.bool false)), [35], (some 35), none⟩,
   o1 2 (.copy 35)]))
 .ret)))
def s_inoTask : Sig := ⟨[.rd true [.d, .d, .d, .d, .d, .d, .d, .sl (.own none) [.d, .d], .d]], (.one false [.d])⟩
noncomputable def E_inoTask : TEnv := envOf []
noncomputable def f_inoTask (n : Nat) : (Int × Int × Int × Int × Int × Int × Int × List (Int × Int) × Int) → Option ((Bool) × Unit) := runFn n E_inoTask c_inoTask [[.i .i64, .i .i64, .i .i64, .i .i64, .i .i64, .i .i64, .i .i64, .sl [.i .i64, .i .i64], .i .i64]] [.b] [] [2] .no
noncomputable def g_inoTask := f_inoTask BIG
noncomputable def p_inoTask : TSp := ⟨s_inoTask, [[.i .i64, .i .i64, .i .i64, .i .i64, .i .i64, .i .i64, .i .i64, .sl [.i .i64, .i .i64], .i .i64]], [.b], [], Ou.j .no, g_inoTask⟩
theorem k_inoTask : chkW PG E_inoTask 240 s_inoTask (c_inoTask.ht 36) .no = some (c_inoTask.wc E_inoTask, [2]) := by kernel_rfl
theorem ok_inoTask : p_inoTask.Ok PG 240 := mkOk (env_nil PG) k_inoTask (by kernel_rfl)
theorem e_inoTask (n : Nat) (a0 : Int × Int × Int × Int × Int × Int × Int × List (Int × Int) × Int) : f_inoTask n a0 =
  Option.bind (bif (decide (a0.1 = (0 : Int)) && (decide (a0.2.1 = (0 : Int)) && (decide (a0.2.2.1 = (0 : Int)) && (decide (a0.2.2.2.1 = (0 : Int)) && true)))) then
    bif decide (a0.2.2.2.2.1 = (0 : Int)) then
     bif decide (a0.2.2.2.2.2.1 = (0 : Int)) then
      bif decide (a0.2.2.2.2.2.2.1 = (0 : Int)) then
       bif decide ((a0.2.2.2.2.2.2.2.1.length : Int) = (0 : Int)) then
        some (decide (a0.2.2.2.2.2.2.2.2 = (0 : Int)))
       else some false
      else some false
     else some false
    else some false
   else some false : Option (Bool)) fun x0 =>
  some (x0, ()) := by kernel_rfl
end Go.Fw
