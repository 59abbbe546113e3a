/- The given functions, as what they compute; each is shown to be what the code does. No conditions. -/
import Derived.Test.YtojipknoidbbgaaG5
import Derived.Test.YtojipknoidbbgaaProg
set_option linter.unusedVariables false
set_option linter.unusedSimpArgs false
namespace Go.Fw
noncomputable abbrev PG := Go.Proofs.Try.prog
def o2 (d : Nat) (e : ED) (j : Nat) (b : Bool) : TO := ⟨false, [], [], .det 1 e, [d], some d, some (j, b)⟩
def o3 (d : Nat) (K : FuncId) (gets : List OY) : TO := ⟨false, [], [], .call 1 K gets .no, [d], some d, none⟩
def o4 (n : Nat) (ds : List Nat) (e : ED) : TO := ⟨false, [], [], .det n e, ds, none, none⟩
end Go.Fw
namespace Go.Fw
/- laws.szIntS -/
def c_lszIntS : TC :=
 (.seq (.rg [o1 4 (.lit [.i .i64] [.int .i64 (0)])])
 (.seq (.rg [o1 5 (.copy 1),
   o1 6 (.copy 0),
   o1 7 (.len 6),
   o1 8 (.data (.bin .sub) [.t 5, .t 7]),
   o1 1 (.copy 8)])
 (.seq (.seq (.rg [o1 9 (.copy 1),
   o1 10 (.data (.bin .lss) [.t 9, .c (.int .i64 (0))])])
 (.cond (.t 10)
  (.seq (.rg [o1 4 (.lit [.i .i64] [.int .i64 (-1)])])
  .ret)
  .skip))
 (.seq (.rg [o1 11 (.copy 1),
   o1 4 (.copy 11)])
 .ret))))
def s_lszIntS : Sig := ⟨[.rd false [.sl (.own none) [.d]], .rd false [.d]], (.one false [.d])⟩
noncomputable def E_lszIntS : TEnv := envOf []
noncomputable def f_lszIntS (n : Nat) : List (Int) × Int → Option ((Int) × Unit) := runFn n E_lszIntS c_lszIntS [[.sl [.i .i64]], [.i .i64]] [.i .i64] [] [4] .no
noncomputable def g_lszIntS := f_lszIntS BIG
noncomputable def p_lszIntS : TSp := ⟨s_lszIntS, [[.sl [.i .i64]], [.i .i64]], [.i .i64], [], Ou.j .no, g_lszIntS⟩
theorem k_lszIntS : chkW PG E_lszIntS 162 s_lszIntS (c_lszIntS.ht 12) .no = some (c_lszIntS.wc E_lszIntS, [4]) := by kernel_rfl
theorem ok_lszIntS : p_lszIntS.Ok PG 162 := mkOk (env_nil PG) k_lszIntS (by kernel_rfl)
theorem e_lszIntS (n : Nat) (a0 : List (Int)) (a1 : Int) : f_lszIntS n (a0, a1) =
  bif decide ((IntKind.wrap .i64 (a1 - (a0.length : Int))) < (0 : Int)) then
   some ((-1 : Int), ())
  else some (IntKind.wrap .i64 (a1 - (a0.length : Int)), ()) := by kernel_rfl
/- laws.szEdgeS -/
def c_lszEdgeS : TC :=
 (.seq (.rg [o1 4 (.lit [.i .i64] [.int .i64 (0)])])
 (.seq (.rg [o1 5 (.copy 1),
   o1 6 (.copy 0),
   o1 7 (.len 6),
   o1 8 (.data (.bin .sub) [.t 5, .t 7]),
   o1 1 (.copy 8)])
 (.seq (.seq (.rg [o1 9 (.copy 1),
   o1 10 (.data (.bin .lss) [.t 9, .c (.int .i64 (0))])])
 (.cond (.t 10)
  (.seq (.rg [o1 4 (.lit [.i .i64] [.int .i64 (-1)])])
  .ret)
  .skip))
 (.seq (.rg [o1 11 (.copy 1),
   o1 4 (.copy 11)])
 .ret))))
def s_lszEdgeS : Sig := ⟨[.rd false [.sl (.own none) [.d, .d]], .rd false [.d]], (.one false [.d])⟩
noncomputable def E_lszEdgeS : TEnv := envOf []
noncomputable def f_lszEdgeS (n : Nat) : (List (Int × Int)) × Int → Option ((Int) × Unit) := runFn n E_lszEdgeS c_lszEdgeS [[.sl [.i .i64, .i .i64]], [.i .i64]] [.i .i64] [] [4] .no
noncomputable def g_lszEdgeS := f_lszEdgeS BIG
noncomputable def p_lszEdgeS : TSp := ⟨s_lszEdgeS, [[.sl [.i .i64, .i .i64]], [.i .i64]], [.i .i64], [], Ou.j .no, g_lszEdgeS⟩
theorem k_lszEdgeS : chkW PG E_lszEdgeS 163 s_lszEdgeS (c_lszEdgeS.ht 12) .no = some (c_lszEdgeS.wc E_lszEdgeS, [4]) := by kernel_rfl
theorem ok_lszEdgeS : p_lszEdgeS.Ok PG 163 := mkOk (env_nil PG) k_lszEdgeS (by kernel_rfl)
theorem e_lszEdgeS (n : Nat) (a0 : List (Int × Int)) (a1 : Int) : f_lszEdgeS n (a0, a1) =
  bif decide ((IntKind.wrap .i64 (a1 - (a0.length : Int))) < (0 : Int)) then
   some ((-1 : Int), ())
  else some (IntKind.wrap .i64 (a1 - (a0.length : Int)), ()) := by kernel_rfl
/- laws.szIntSS -/
def c_lszIntSS : TC :=
 (.seq (.rg [o1 4 (.lit [.i .i64] [.int .i64 (0)])])
 (.seq (.rg [o1 6 (.copy 1),
   o1 7 (.copy 0),
   o1 8 (.len 7),
   o1 9 (.data (.bin .sub) [.t 6, .t 8]),
   o1 1 (.copy 9)])
 (.seq (.seq (.rg [o1 10 (.copy 1),
   o1 11 (.data (.bin .lss) [.t 10, .c (.int .i64 (0))])])
 (.cond (.t 11)
  (.seq (.rg [o1 4 (.lit [.i .i64] [.int .i64 (-1)])])
  .ret)
  .skip))
 (.seq (.join [⟨1, [.i .i64], false⟩] 67104818 (some [⟨4, [.i .i64], false⟩]) (.seq (.rg [o1 5 (.lit [.i .i64] [.int .i64 (0)])])
 (.block 0 (.loop [⟨1, [.i .i64], false⟩, ⟨5, [.i .i64], false⟩] 67104818
  (.seq (.seq (.rg [o1 12 (.copy 5),
    o1 13 (.copy 0),
    o1 14 (.len 13),
    o1 15 (.data (.bin .lss) [.t 12, .t 14])])
  (.cond (.t 15)
   .skip
   (.exit 0)))
  (.seq (.block 1 (.seq (.rg [o1 18 (.copy 0),
    o1 19 (.copy 5),
    o1 20 (.index 18 (.t 19)),
    o1 21 (.load 18 [(0, 1)] 0 (.t 20) 1 false),
    o1 22 (.copy 1),
    o3 23 162 [.t 21, .t 22],
    o1 1 (.copy 23)])
  (.seq (.rg [o1 24 (.copy 1),
    o1 25 (.data (.bin .lss) [.t 24, .c (.int .i64 (0))])])
  (.cond (.t 25)
   (.seq (.rg [o1 4 (.lit [.i .i64] [.int .i64 (-1)])])
   .ret)
   .skip))))
  (.rg [o1 16 (.copy 5),
    o1 17 (.data (.bin .add) [.t 16, .c (.int .i64 (1))]),
    o1 5 (.copy 17)])))))))
 (.seq (.rg [o1 26 (.copy 1),
   o1 4 (.copy 26)])
 .ret)))))
def s_lszIntSS : Sig := ⟨[.rd false [.sl (.own none) [.sl (.own none) [.d]]], .rd false [.d]], (.one false [.d])⟩
noncomputable def E_lszIntSS : TEnv := envOf [(162, p_lszIntS)]
noncomputable def f_lszIntSS (n : Nat) : List (List (Int)) × Int → Option ((Int) × Unit) := runFn n E_lszIntSS c_lszIntSS [[.sl [.sl [.i .i64]]], [.i .i64]] [.i .i64] [] [4] .no
noncomputable def g_lszIntSS := f_lszIntSS BIG
noncomputable def p_lszIntSS : TSp := ⟨s_lszIntSS, [[.sl [.sl [.i .i64]]], [.i .i64]], [.i .i64], [], Ou.j .no, g_lszIntSS⟩
theorem k_lszIntSS : chkW PG E_lszIntSS 164 s_lszIntSS (c_lszIntSS.ht 27) .no = some (c_lszIntSS.wc E_lszIntSS, [4]) := by kernel_rfl
theorem ok_lszIntSS : p_lszIntSS.Ok PG 164 := mkOk (env_cons ok_lszIntS (env_nil PG)) k_lszIntSS (by kernel_rfl)
theorem e_lszIntSS (n : Nat) (a0 : List ((List (Int)))) (a1 : Int) : f_lszIntSS n (a0, a1) =
  bif decide ((IntKind.wrap .i64 (a1 - (a0.length : Int))) < (0 : Int)) then
   some ((-1 : Int), ())
  else Option.bind (loopT n (X := Int × Int) (B := (Int) ⊕ (Int)) (fun self1 x0 =>
    bif decide (x0.2 < (a0.length : Int)) then
     bnd a0.length x0.2 fun n2 =>
     Option.bind a0[n2]? fun y3 =>
     Option.bind (g_lszIntS (y3, x0.1)) fun r4 =>
     bif decide (r4.1 < (0 : Int)) then
      some (Sum.inr (-1 : Int))
     else self1 (r4.1, IntKind.wrap .i64 (x0.2 + (1 : Int)))
    else some (Sum.inl x0.1)) (IntKind.wrap .i64 (a1 - (a0.length : Int)), (0 : Int)) : Option ((Int) ⊕ (Int))) fun y => match y with
  | .inl x5 =>
   some (x5, ())
  | .inr x5 =>
   some (x5, ()) := by kernel_rfl
/- laws.szOrder -/
def c_lszOrder : TC :=
 (.seq (.rg [o1 2 (.a (.t 0)),
   o1 4 (.lit [.i .i64] [.int .i64 (0)])])
 (.seq (.rg [o1 5 (.idx .nil),
   o1 6 (.load 2 [] 2 (.t 5) 1 false),
   o1 7 (.copy 1),
   o3 8 163 [.t 6, .t 7],
   o1 1 (.copy 8)])
 (.seq (.seq (.rg [o1 9 (.copy 1),
   o1 10 (.data (.bin .lss) [.t 9, .c (.int .i64 (0))])])
 (.cond (.t 10)
  (.seq (.rg [o1 4 (.lit [.i .i64] [.int .i64 (-1)])])
  .ret)
  .skip))
 (.seq (.rg [o1 11 (.copy 1),
   o1 4 (.copy 11)])
 .ret))))
def s_lszOrder : Sig := ⟨[.rd true [.d, .d, .sl (.own none) [.d, .d], .d], .rd false [.d]], (.one false [.d])⟩
noncomputable def E_lszOrder : TEnv := envOf [(163, p_lszEdgeS)]
noncomputable def f_lszOrder (n : Nat) : (Int × Int × List (Int × Int) × Int) × Int → Option ((Int) × Unit) := runFn n E_lszOrder c_lszOrder [[.i .i64, .i .i64, .sl [.i .i64, .i .i64], .i .i64], [.i .i64]] [.i .i64] [] [4] .no
noncomputable def g_lszOrder := f_lszOrder BIG
noncomputable def p_lszOrder : TSp := ⟨s_lszOrder, [[.i .i64, .i .i64, .sl [.i .i64, .i .i64], .i .i64], [.i .i64]], [.i .i64], [], Ou.j .no, g_lszOrder⟩
theorem k_lszOrder : chkW PG E_lszOrder 280 s_lszOrder (c_lszOrder.ht 12) .no = some (c_lszOrder.wc E_lszOrder, [4]) := by kernel_rfl
theorem ok_lszOrder : p_lszOrder.Ok PG 280 := mkOk (env_cons ok_lszEdgeS (env_nil PG)) k_lszOrder (by kernel_rfl)
theorem e_lszOrder (n : Nat) (a0 : Int × Int × List (Int × Int) × Int) (a1 : Int) : f_lszOrder n (a0, a1) =
  Option.bind (g_lszEdgeS (a0.2.2.1, a1)) fun r0 =>
  bif decide (r0.1 < (0 : Int)) then
   some ((-1 : Int), ())
  else some (r0.1, ()) := by kernel_rfl
/- laws.szTask -/
def c_lszTask : TC :=
 (.seq (.rg [o1 2 (.a (.t 0)),
   o1 4 (.lit [.i .i64] [.int .i64 (0)])])
 (.seq (.rg [o1 5 (.idx .nil),
   o1 6 (.load 2 [] 5 (.t 5) 4 false),
   o1 7 (.copy 1),
   o3 8 280 [.t 6, .t 7],
   o1 1 (.copy 8)])
 (.seq (.seq (.rg [o1 9 (.copy 1),
   o1 10 (.data (.bin .lss) [.t 9, .c (.int .i64 (0))])])
 (.cond (.t 10)
  (.seq (.rg [o1 4 (.lit [.i .i64] [.int .i64 (-1)])])
  .ret)
  .skip))
 (.seq (.rg [o1 11 (.copy 1),
   o1 4 (.copy 11)])
 .ret))))
def s_lszTask : Sig := ⟨[.rd true [.d, .d, .d, .d, .d, .d, .d, .sl (.own none) [.d, .d], .d], .rd false [.d]], (.one false [.d])⟩
noncomputable def E_lszTask : TEnv := envOf [(280, p_lszOrder)]
noncomputable def f_lszTask (n : Nat) : (Int × Int × Int × Int × Int × Int × Int × List (Int × Int) × Int) × Int → Option ((Int) × Unit) := runFn n E_lszTask c_lszTask [[.i .i64, .i .i64, .i .i64, .i .i64, .i .i64, .i .i64, .i .i64, .sl [.i .i64, .i .i64], .i .i64], [.i .i64]] [.i .i64] [] [4] .no
noncomputable def g_lszTask := f_lszTask BIG
noncomputable def p_lszTask : TSp := ⟨s_lszTask, [[.i .i64, .i .i64, .i .i64, .i .i64, .i .i64, .i .i64, .i .i64, .sl [.i .i64, .i .i64], .i .i64], [.i .i64]], [.i .i64], [], Ou.j .no, g_lszTask⟩
theorem k_lszTask : chkW PG E_lszTask 165 s_lszTask (c_lszTask.ht 12) .no = some (c_lszTask.wc E_lszTask, [4]) := by kernel_rfl
theorem ok_lszTask : p_lszTask.Ok PG 165 := mkOk (env_cons ok_lszOrder (env_nil PG)) k_lszTask (by kernel_rfl)
theorem e_lszTask (n : Nat) (a0 : Int × Int × Int × Int × Int × Int × Int × List (Int × Int) × Int) (a1 : Int) : f_lszTask n (a0, a1) =
  Option.bind (g_lszOrder (a0.2.2.2.2.2, a1)) fun r0 =>
  bif decide (r0.1 < (0 : Int)) then
   some ((-1 : Int), ())
  else some (r0.1, ()) := by kernel_rfl
/- laws.szSaidS -/
def c_lszSaidS : TC :=
 (.seq (.rg [o1 4 (.lit [.i .i64] [.int .i64 (0)])])
 (.seq (.rg [o1 5 (.copy 1),
   o1 6 (.copy 0),
   o1 7 (.len 6),
   o1 8 (.data (.bin .sub) [.t 5, .t 7]),
   o1 1 (.copy 8)])
 (.seq (.seq (.rg [o1 9 (.copy 1),
   o1 10 (.data (.bin .lss) [.t 9, .c (.int .i64 (0))])])
 (.cond (.t 10)
  (.seq (.rg [o1 4 (.lit [.i .i64] [.int .i64 (-1)])])
  .ret)
  .skip))
 (.seq (.rg [o1 11 (.copy 1),
   o1 4 (.copy 11)])
 .ret))))
def s_lszSaidS : Sig := ⟨[.rd false [.sl (.own none) [.d, .d, .d, .d, .d, .d]], .rd false [.d]], (.one false [.d])⟩
noncomputable def E_lszSaidS : TEnv := envOf []
noncomputable def f_lszSaidS (n : Nat) : (List (Int × Int × Int × Int × Int × Int)) × Int → Option ((Int) × Unit) := runFn n E_lszSaidS c_lszSaidS [[.sl [.i .i64, .i .i64, .i .i64, .i .i64, .i .i64, .i .i64]], [.i .i64]] [.i .i64] [] [4] .no
noncomputable def g_lszSaidS := f_lszSaidS BIG
noncomputable def p_lszSaidS : TSp := ⟨s_lszSaidS, [[.sl [.i .i64, .i .i64, .i .i64, .i .i64, .i .i64, .i .i64]], [.i .i64]], [.i .i64], [], Ou.j .no, g_lszSaidS⟩
theorem k_lszSaidS : chkW PG E_lszSaidS 166 s_lszSaidS (c_lszSaidS.ht 12) .no = some (c_lszSaidS.wc E_lszSaidS, [4]) := by kernel_rfl
theorem ok_lszSaidS : p_lszSaidS.Ok PG 166 := mkOk (env_nil PG) k_lszSaidS (by kernel_rfl)
theorem e_lszSaidS (n : Nat) (a0 : List (Int × Int × Int × Int × Int × Int)) (a1 : Int) : f_lszSaidS n (a0, a1) =
  bif decide ((IntKind.wrap .i64 (a1 - (a0.length : Int))) < (0 : Int)) then
   some ((-1 : Int), ())
  else some (IntKind.wrap .i64 (a1 - (a0.length : Int)), ()) := by kernel_rfl
/- laws.szHead -/
def c_lszHead : TC :=
 (.seq (.rg [o1 2 (.a (.t 0)),
   o1 4 (.lit [.i .i64] [.int .i64 (0)])])
 (.seq (.rg [o1 5 (.idx .nil),
   o1 6 (.load 2 [] 1 (.t 5) 1 false),
   o1 7 (.copy 1),
   o3 8 162 [.t 6, .t 7],
   o1 1 (.copy 8)])
 (.seq (.seq (.rg [o1 9 (.copy 1),
   o1 10 (.data (.bin .lss) [.t 9, .c (.int .i64 (0))])])
 (.cond (.t 10)
  (.seq (.rg [o1 4 (.lit [.i .i64] [.int .i64 (-1)])])
  .ret)
  .skip))
 (.seq (.rg [o1 11 (.idx .nil),
   o1 12 (.load 2 [] 2 (.t 11) 1 false),
   o1 13 (.copy 1),
   o3 14 163 [.t 12, .t 13],
   o1 1 (.copy 14)])
 (.seq (.seq (.rg [o1 15 (.copy 1),
   o1 16 (.data (.bin .lss) [.t 15, .c (.int .i64 (0))])])
 (.cond (.t 16)
  (.seq (.rg [o1 4 (.lit [.i .i64] [.int .i64 (-1)])])
  .ret)
  .skip))
 (.seq (.rg [o1 17 (.idx .nil),
   o1 18 (.load 2 [] 3 (.t 17) 1 false),
   o1 19 (.copy 1),
   o3 20 164 [.t 18, .t 19],
   o1 1 (.copy 20)])
 (.seq (.seq (.rg [o1 21 (.copy 1),
   o1 22 (.data (.bin .lss) [.t 21, .c (.int .i64 (0))])])
 (.cond (.t 22)
  (.seq (.rg [o1 4 (.lit [.i .i64] [.int .i64 (-1)])])
  .ret)
  .skip))
 (.seq (.rg [o1 23 (.idx .nil),
   o1 24 (.load 2 [] 4 (.t 23) 1 false),
   o1 25 (.copy 1),
   o3 26 162 [.t 24, .t 25],
   o1 1 (.copy 26)])
 (.seq (.seq (.rg [o1 27 (.copy 1),
   o1 28 (.data (.bin .lss) [.t 27, .c (.int .i64 (0))])])
 (.cond (.t 28)
  (.seq (.rg [o1 4 (.lit [.i .i64] [.int .i64 (-1)])])
  .ret)
  .skip))
 (.seq (.rg [o1 29 (.idx .nil),
   o1 30 (.load 2 [] 5 (.t 29) 9 false),
   o1 31 (.copy 1),
   o3 32 165 [.t 30, .t 31],
   o1 1 (.copy 32)])
 (.seq (.seq (.rg [o1 33 (.copy 1),
   o1 34 (.data (.bin .lss) [.t 33, .c (.int .i64 (0))])])
 (.cond (.t 34)
  (.seq (.rg [o1 4 (.lit [.i .i64] [.int .i64 (-1)])])
  .ret)
  .skip))
 (.seq (.rg [o1 35 (.idx .nil),
   o1 36 (.load 2 [] 14 (.t 35) 1 false),
   o1 37 (.copy 1),
   o3 38 166 [.t 36, .t 37],
   o1 1 (.copy 38)])
 (.seq (.seq (.rg [o1 39 (.copy 1),
   o1 40 (.data (.bin .lss) [.t 39, .c (.int .i64 (0))])])
 (.cond (.t 40)
  (.seq (.rg [o1 4 (.lit [.i .i64] [.int .i64 (-1)])])
  .ret)
  .skip))
 (.seq (.rg [o1 41 (.copy 1),
   o1 4 (.copy 41)])
 .ret))))))))))))))
def s_lszHead : Sig := ⟨[.rd true [.d, .sl (.own none) [.d], .sl (.own none) [.d, .d], .sl (.own none) [.sl (.own none) [.d]], .sl (.own none) [.d], .d, .d, .d, .d, .d, .d, .d, .sl (.own none) [.d, .d], .d, .sl (.own none) [.d, .d, .d, .d, .d, .d]], .rd false [.d]], (.one false [.d])⟩
noncomputable def E_lszHead : TEnv := envOf [(162, p_lszIntS), (163, p_lszEdgeS), (164, p_lszIntSS), (165, p_lszTask), (166, p_lszSaidS)]
noncomputable def f_lszHead (n : Nat) : (Int × List (Int) × List (Int × Int) × List (List (Int)) × List (Int) × Int × Int × Int × Int × Int × Int × Int × List (Int × Int) × Int × List (Int × Int × Int × Int × Int × Int)) × Int → Option ((Int) × Unit) := runFn n E_lszHead c_lszHead [[.i .i64, .sl [.i .i64], .sl [.i .i64, .i .i64], .sl [.sl [.i .i64]], .sl [.i .i64], .i .i64, .i .i64, .i .i64, .i .i64, .i .i64, .i .i64, .i .i64, .sl [.i .i64, .i .i64], .i .i64, .sl [.i .i64, .i .i64, .i .i64, .i .i64, .i .i64, .i .i64]], [.i .i64]] [.i .i64] [] [4] .no
noncomputable def g_lszHead := f_lszHead BIG
noncomputable def p_lszHead : TSp := ⟨s_lszHead, [[.i .i64, .sl [.i .i64], .sl [.i .i64, .i .i64], .sl [.sl [.i .i64]], .sl [.i .i64], .i .i64, .i .i64, .i .i64, .i .i64, .i .i64, .i .i64, .i .i64, .sl [.i .i64, .i .i64], .i .i64, .sl [.i .i64, .i .i64, .i .i64, .i .i64, .i .i64, .i .i64]], [.i .i64]], [.i .i64], [], Ou.j .no, g_lszHead⟩
theorem k_lszHead : chkW PG E_lszHead 68 s_lszHead (c_lszHead.ht 42) .no = some (c_lszHead.wc E_lszHead, [4]) := by kernel_rfl
theorem ok_lszHead : p_lszHead.Ok PG 68 := mkOk (env_cons ok_lszIntS (env_cons ok_lszEdgeS (env_cons ok_lszIntSS (env_cons ok_lszTask (env_cons ok_lszSaidS (env_nil PG)))))) k_lszHead (by kernel_rfl)
theorem e_lszHead (n : Nat) (a0 : Int × List (Int) × List (Int × Int) × List ((List (Int))) × List (Int) × Int × Int × Int × Int × Int × Int × Int × List (Int × Int) × Int × List (Int × Int × Int × Int × Int × Int)) (a1 : Int) : f_lszHead n (a0, a1) =
  Option.bind (g_lszIntS (a0.2.1, a1)) fun r0 =>
  bif decide (r0.1 < (0 : Int)) then
   some ((-1 : Int), ())
  else Option.bind (g_lszEdgeS (a0.2.2.1, r0.1)) fun r1 =>
  bif decide (r1.1 < (0 : Int)) then
   some ((-1 : Int), ())
  else Option.bind (g_lszIntSS (a0.2.2.2.1, r1.1)) fun r2 =>
  bif decide (r2.1 < (0 : Int)) then
   some ((-1 : Int), ())
  else Option.bind (g_lszIntS (a0.2.2.2.2.1, r2.1)) fun r3 =>
  bif decide (r3.1 < (0 : Int)) then
   some ((-1 : Int), ())
  else Option.bind (g_lszTask ((a0.2.2.2.2.2.1, a0.2.2.2.2.2.2.1, a0.2.2.2.2.2.2.2.1, a0.2.2.2.2.2.2.2.2.1, a0.2.2.2.2.2.2.2.2.2.1, a0.2.2.2.2.2.2.2.2.2.2.1, a0.2.2.2.2.2.2.2.2.2.2.2.1, a0.2.2.2.2.2.2.2.2.2.2.2.2.1, a0.2.2.2.2.2.2.2.2.2.2.2.2.2.1), r3.1)) fun r4 =>
  bif decide (r4.1 < (0 : Int)) then
   some ((-1 : Int), ())
  else Option.bind (g_lszSaidS (a0.2.2.2.2.2.2.2.2.2.2.2.2.2.2, r4.1)) fun r5 =>
  bif decide (r5.1 < (0 : Int)) then
   some ((-1 : Int), ())
  else some (r5.1, ()) := by kernel_rfl
/- laws.szLedgeS -/
def c_lszLedgeS : TC :=
 (.seq (.rg [o1 4 (.lit [.i .i64] [.int .i64 (0)])])
 (.seq (.rg [o1 5 (.copy 1),
   o1 6 (.copy 0),
   o1 7 (.len 6),
   o1 8 (.data (.bin .sub) [.t 5, .t 7]),
   o1 1 (.copy 8)])
 (.seq (.seq (.rg [o1 9 (.copy 1),
   o1 10 (.data (.bin .lss) [.t 9, .c (.int .i64 (0))])])
 (.cond (.t 10)
  (.seq (.rg [o1 4 (.lit [.i .i64] [.int .i64 (-1)])])
  .ret)
  .skip))
 (.seq (.rg [o1 11 (.copy 1),
   o1 4 (.copy 11)])
 .ret))))
def s_lszLedgeS : Sig := ⟨[.rd false [.sl (.own none) [.d, .d, .d, .d]], .rd false [.d]], (.one false [.d])⟩
noncomputable def E_lszLedgeS : TEnv := envOf []
noncomputable def f_lszLedgeS (n : Nat) : (List (Int × Int × Int × Bool)) × Int → Option ((Int) × Unit) := runFn n E_lszLedgeS c_lszLedgeS [[.sl [.i .i64, .i .i64, .i .i64, .b]], [.i .i64]] [.i .i64] [] [4] .no
noncomputable def g_lszLedgeS := f_lszLedgeS BIG
noncomputable def p_lszLedgeS : TSp := ⟨s_lszLedgeS, [[.sl [.i .i64, .i .i64, .i .i64, .b]], [.i .i64]], [.i .i64], [], Ou.j .no, g_lszLedgeS⟩
theorem k_lszLedgeS : chkW PG E_lszLedgeS 242 s_lszLedgeS (c_lszLedgeS.ht 12) .no = some (c_lszLedgeS.wc E_lszLedgeS, [4]) := by kernel_rfl
theorem ok_lszLedgeS : p_lszLedgeS.Ok PG 242 := mkOk (env_nil PG) k_lszLedgeS (by kernel_rfl)
theorem e_lszLedgeS (n : Nat) (a0 : List (Int × Int × Int × Bool)) (a1 : Int) : f_lszLedgeS n (a0, a1) =
  bif decide ((IntKind.wrap .i64 (a1 - (a0.length : Int))) < (0 : Int)) then
   some ((-1 : Int), ())
  else some (IntKind.wrap .i64 (a1 - (a0.length : Int)), ()) := by kernel_rfl
/- laws.szWeb -/
def c_lszWeb : TC :=
 (.seq (.rg [o1 2 (.a (.t 0)),
   o1 4 (.lit [.i .i64] [.int .i64 (0)])])
 (.seq (.rg [o1 5 (.idx .nil),
   o1 6 (.load 2 [] 1 (.t 5) 1 false),
   o1 7 (.copy 1),
   o3 8 242 [.t 6, .t 7],
   o1 1 (.copy 8)])
 (.seq (.seq (.rg [o1 9 (.copy 1),
   o1 10 (.data (.bin .lss) [.t 9, .c (.int .i64 (0))])])
 (.cond (.t 10)
  (.seq (.rg [o1 4 (.lit [.i .i64] [.int .i64 (-1)])])
  .ret)
  .skip))
 (.seq (.rg [o1 11 (.copy 1),
   o1 4 (.copy 11)])
 .ret))))
def s_lszWeb : Sig := ⟨[.rd true [.d, .sl (.own none) [.d, .d, .d, .d]], .rd false [.d]], (.one false [.d])⟩
noncomputable def E_lszWeb : TEnv := envOf [(242, p_lszLedgeS)]
noncomputable def f_lszWeb (n : Nat) : (Int × List (Int × Int × Int × Bool)) × Int → Option ((Int) × Unit) := runFn n E_lszWeb c_lszWeb [[.i .i64, .sl [.i .i64, .i .i64, .i .i64, .b]], [.i .i64]] [.i .i64] [] [4] .no
noncomputable def g_lszWeb := f_lszWeb BIG
noncomputable def p_lszWeb : TSp := ⟨s_lszWeb, [[.i .i64, .sl [.i .i64, .i .i64, .i .i64, .b]], [.i .i64]], [.i .i64], [], Ou.j .no, g_lszWeb⟩
theorem k_lszWeb : chkW PG E_lszWeb 127 s_lszWeb (c_lszWeb.ht 12) .no = some (c_lszWeb.wc E_lszWeb, [4]) := by kernel_rfl
theorem ok_lszWeb : p_lszWeb.Ok PG 127 := mkOk (env_cons ok_lszLedgeS (env_nil PG)) k_lszWeb (by kernel_rfl)
theorem e_lszWeb (n : Nat) (a0 : Int × List (Int × Int × Int × Bool)) (a1 : Int) : f_lszWeb n (a0, a1) =
  Option.bind (g_lszLedgeS (a0.2, a1)) fun r0 =>
  bif decide (r0.1 < (0 : Int)) then
   some ((-1 : Int), ())
  else some (r0.1, ()) := by kernel_rfl
/- laws.szAnswer -/
def c_lszAnswer : TC :=
 (.seq (.rg [o1 2 (.a (.t 0)),
   o1 4 (.lit [.i .i64] [.int .i64 (0)])])
 (.seq (.rg [o1 5 (.idx .nil),
   o1 6 (.load 2 [] 2 (.t 5) 1 false),
   o1 7 (.copy 1),
   o3 8 163 [.t 6, .t 7],
   o1 1 (.copy 8)])
 (.seq (.seq (.rg [o1 9 (.copy 1),
   o1 10 (.data (.bin .lss) [.t 9, .c (.int .i64 (0))])])
 (.cond (.t 10)
  (.seq (.rg [o1 4 (.lit [.i .i64] [.int .i64 (-1)])])
  .ret)
  .skip))
 (.seq (.rg [o1 11 (.idx .nil),
   o1 12 (.load 2 [] 3 (.t 11) 1 false),
   o1 13 (.copy 1),
   o3 14 162 [.t 12, .t 13],
   o1 1 (.copy 14)])
 (.seq (.seq (.rg [o1 15 (.copy 1),
   o1 16 (.data (.bin .lss) [.t 15, .c (.int .i64 (0))])])
 (.cond (.t 16)
  (.seq (.rg [o1 4 (.lit [.i .i64] [.int .i64 (-1)])])
  .ret)
  .skip))
 (.seq (.rg [o1 17 (.copy 1),
   o1 4 (.copy 17)])
 .ret))))))
def s_lszAnswer : Sig := ⟨[.rd true [.d, .d, .sl (.own none) [.d, .d], .sl (.own none) [.d]], .rd false [.d]], (.one false [.d])⟩
noncomputable def E_lszAnswer : TEnv := envOf [(163, p_lszEdgeS), (162, p_lszIntS)]
noncomputable def f_lszAnswer (n : Nat) : (Int × Bool × List (Int × Int) × List (Int)) × Int → Option ((Int) × Unit) := runFn n E_lszAnswer c_lszAnswer [[.i .i64, .b, .sl [.i .i64, .i .i64], .sl [.i .i64]], [.i .i64]] [.i .i64] [] [4] .no
noncomputable def g_lszAnswer := f_lszAnswer BIG
noncomputable def p_lszAnswer : TSp := ⟨s_lszAnswer, [[.i .i64, .b, .sl [.i .i64, .i .i64], .sl [.i .i64]], [.i .i64]], [.i .i64], [], Ou.j .no, g_lszAnswer⟩
theorem k_lszAnswer : chkW PG E_lszAnswer 69 s_lszAnswer (c_lszAnswer.ht 18) .no = some (c_lszAnswer.wc E_lszAnswer, [4]) := by kernel_rfl
theorem ok_lszAnswer : p_lszAnswer.Ok PG 69 := mkOk (env_cons ok_lszEdgeS (env_cons ok_lszIntS (env_nil PG))) k_lszAnswer (by kernel_rfl)
theorem e_lszAnswer (n : Nat) (a0 : Int × Bool × List (Int × Int) × List (Int)) (a1 : Int) : f_lszAnswer n (a0, a1) =
  Option.bind (g_lszEdgeS (a0.2.2.1, a1)) fun r0 =>
  bif decide (r0.1 < (0 : Int)) then
   some ((-1 : Int), ())
  else Option.bind (g_lszIntS (a0.2.2.2, r0.1)) fun r1 =>
  bif decide (r1.1 < (0 : Int)) then
   some ((-1 : Int), ())
  else some (r1.1, ()) := by kernel_rfl
/- laws.szShard -/
def c_lszShard : TC :=
 (.seq (.rg [o1 2 (.a (.t 0)),
   o1 4 (.lit [.i .i64] [.int .i64 (0)])])
 (.seq (.rg [o1 5 (.idx .nil),
   o1 6 (.load 2 [] 1 (.t 5) 2 false),
   o1 7 (.copy 1),
   o3 8 127 [.t 6, .t 7],
   o1 1 (.copy 8)])
 (.seq (.seq (.rg [o1 9 (.copy 1),
   o1 10 (.data (.bin .lss) [.t 9, .c (.int .i64 (0))])])
 (.cond (.t 10)
  (.seq (.rg [o1 4 (.lit [.i .i64] [.int .i64 (-1)])])
  .ret)
  .skip))
 (.seq (.rg [o1 11 (.idx .nil),
   o1 12 (.load 2 [] 3 (.t 11) 4 false),
   o1 13 (.copy 1),
   o3 14 69 [.t 12, .t 13],
   o1 1 (.copy 14)])
 (.seq (.seq (.rg [o1 15 (.copy 1),
   o1 16 (.data (.bin .lss) [.t 15, .c (.int .i64 (0))])])
 (.cond (.t 16)
  (.seq (.rg [o1 4 (.lit [.i .i64] [.int .i64 (-1)])])
  .ret)
  .skip))
 (.seq (.rg [o1 17 (.copy 1),
   o1 4 (.copy 17)])
 .ret))))))
def s_lszShard : Sig := ⟨[.rd true [.d, .d, .sl (.own none) [.d, .d, .d, .d], .d, .d, .sl (.own none) [.d, .d], .sl (.own none) [.d]], .rd false [.d]], (.one false [.d])⟩
noncomputable def E_lszShard : TEnv := envOf [(127, p_lszWeb), (69, p_lszAnswer)]
noncomputable def f_lszShard (n : Nat) : (Int × Int × List (Int × Int × Int × Bool) × Int × Bool × List (Int × Int) × List (Int)) × Int → Option ((Int) × Unit) := runFn n E_lszShard c_lszShard [[.i .i64, .i .i64, .sl [.i .i64, .i .i64, .i .i64, .b], .i .i64, .b, .sl [.i .i64, .i .i64], .sl [.i .i64]], [.i .i64]] [.i .i64] [] [4] .no
noncomputable def g_lszShard := f_lszShard BIG
noncomputable def p_lszShard : TSp := ⟨s_lszShard, [[.i .i64, .i .i64, .sl [.i .i64, .i .i64, .i .i64, .b], .i .i64, .b, .sl [.i .i64, .i .i64], .sl [.i .i64]], [.i .i64]], [.i .i64], [], Ou.j .no, g_lszShard⟩
theorem k_lszShard : chkW PG E_lszShard 49 s_lszShard (c_lszShard.ht 18) .no = some (c_lszShard.wc E_lszShard, [4]) := by kernel_rfl
theorem ok_lszShard : p_lszShard.Ok PG 49 := mkOk (env_cons ok_lszWeb (env_cons ok_lszAnswer (env_nil PG))) k_lszShard (by kernel_rfl)
theorem e_lszShard (n : Nat) (a0 : Int × Int × List (Int × Int × Int × Bool) × Int × Bool × List (Int × Int) × List (Int)) (a1 : Int) : f_lszShard n (a0, a1) =
  Option.bind (g_lszWeb ((a0.2.1, a0.2.2.1), a1)) fun r0 =>
  bif decide (r0.1 < (0 : Int)) then
   some ((-1 : Int), ())
  else Option.bind (g_lszAnswer (a0.2.2.2, r0.1)) fun r1 =>
  bif decide (r1.1 < (0 : Int)) then
   some ((-1 : Int), ())
  else some (r1.1, ()) := by kernel_rfl
/- laws.szShardS -/
def c_lszShardS : TC :=
 (.seq (.rg [o1 4 (.lit [.i .i64] [.int .i64 (0)])])
 (.seq (.rg [o1 6 (.copy 1),
   o1 7 (.copy 0),
   o1 8 (.len 7),
   o1 9 (.data (.bin .sub) [.t 6, .t 8]),
   o1 1 (.copy 9)])
 (.seq (.seq (.rg [o1 10 (.copy 1),
   o1 11 (.data (.bin .lss) [.t 10, .c (.int .i64 (0))])])
 (.cond (.t 11)
  (.seq (.rg [o1 4 (.lit [.i .i64] [.int .i64 (-1)])])
  .ret)
  .skip))
 (.seq (.join [⟨1, [.i .i64], false⟩] 67104818 (some [⟨4, [.i .i64], false⟩]) (.seq (.rg [o1 5 (.lit [.i .i64] [.int .i64 (0)])])
 (.block 0 (.loop [⟨1, [.i .i64], false⟩, ⟨5, [.i .i64], false⟩] 67104818
  (.seq (.seq (.rg [o1 12 (.copy 5),
    o1 13 (.copy 0),
    o1 14 (.len 13),
    o1 15 (.data (.bin .lss) [.t 12, .t 14])])
  (.cond (.t 15)
   .skip
   (.exit 0)))
  (.seq (.block 1 (.seq (.rg [o1 18 (.copy 0),
    o1 19 (.copy 5),
    o1 20 (.index 18 (.t 19)),
    o1 21 (.load 18 [(0, 7)] 0 (.t 20) 7 false),
    o1 22 (.copy 1),
    o3 23 49 [.t 21, .t 22],
    o1 1 (.copy 23)])
  (.seq (.rg [o1 24 (.copy 1),
    o1 25 (.data (.bin .lss) [.t 24, .c (.int .i64 (0))])])
  (.cond (.t 25)
   (.seq (.rg [o1 4 (.lit [.i .i64] [.int .i64 (-1)])])
   .ret)
   .skip))))
  (.rg [o1 16 (.copy 5),
    o1 17 (.data (.bin .add) [.t 16, .c (.int .i64 (1))]),
    o1 5 (.copy 17)])))))))
 (.seq (.rg [o1 26 (.copy 1),
   o1 4 (.copy 26)])
 .ret)))))
def s_lszShardS : Sig := ⟨[.rd false [.sl (.own none) [.d, .d, .sl (.own none) [.d, .d, .d, .d], .d, .d, .sl (.own none) [.d, .d], .sl (.own none) [.d]]], .rd false [.d]], (.one false [.d])⟩
noncomputable def E_lszShardS : TEnv := envOf [(49, p_lszShard)]
noncomputable def f_lszShardS (n : Nat) : (List (Int × Int × List (Int × Int × Int × Bool) × Int × Bool × List (Int × Int) × List (Int))) × Int → Option ((Int) × Unit) := runFn n E_lszShardS c_lszShardS [[.sl [.i .i64, .i .i64, .sl [.i .i64, .i .i64, .i .i64, .b], .i .i64, .b, .sl [.i .i64, .i .i64], .sl [.i .i64]]], [.i .i64]] [.i .i64] [] [4] .no
noncomputable def g_lszShardS := f_lszShardS BIG
noncomputable def p_lszShardS : TSp := ⟨s_lszShardS, [[.sl [.i .i64, .i .i64, .sl [.i .i64, .i .i64, .i .i64, .b], .i .i64, .b, .sl [.i .i64, .i .i64], .sl [.i .i64]]], [.i .i64]], [.i .i64], [], Ou.j .no, g_lszShardS⟩
theorem k_lszShardS : chkW PG E_lszShardS 196 s_lszShardS (c_lszShardS.ht 27) .no = some (c_lszShardS.wc E_lszShardS, [4]) := by kernel_rfl
theorem ok_lszShardS : p_lszShardS.Ok PG 196 := mkOk (env_cons ok_lszShard (env_nil PG)) k_lszShardS (by kernel_rfl)
theorem e_lszShardS (n : Nat) (a0 : List (Int × Int × (List (Int × Int × Int × Bool)) × Int × Bool × (List (Int × Int)) × (List (Int)))) (a1 : Int) : f_lszShardS n (a0, a1) =
  bif decide ((IntKind.wrap .i64 (a1 - (a0.length : Int))) < (0 : Int)) then
   some ((-1 : Int), ())
  else Option.bind (loopT n (X := Int × Int) (B := (Int) ⊕ (Int)) (fun self1 x0 =>
    bif decide (x0.2 < (a0.length : Int)) then
     bnd a0.length x0.2 fun n2 =>
     Option.bind a0[n2]? fun y3 =>
     Option.bind (g_lszShard (y3, x0.1)) fun r4 =>
     bif decide (r4.1 < (0 : Int)) then
      some (Sum.inr (-1 : Int))
     else self1 (r4.1, IntKind.wrap .i64 (x0.2 + (1 : Int)))
    else some (Sum.inl x0.1)) (IntKind.wrap .i64 (a1 - (a0.length : Int)), (0 : Int)) : Option ((Int) ⊕ (Int))) fun y => match y with
  | .inl x5 =>
   some (x5, ())
  | .inr x5 =>
   some (x5, ()) := by kernel_rfl
/- laws.szFile -/
def c_lszFile : TC :=
 (.seq (.rg [o1 2 (.a (.t 0)),
   o1 4 (.lit [.i .i64] [.int .i64 (0)])])
 (.seq (.rg [o1 5 (.copy 1),
   o1 6 (.idx .nil),
   o1 7 (.load 2 [] 0 (.t 6) 1 false),
   o1 8 (.data .slen [.t 7]),
   o1 9 (.data (.bin .sub) [.t 5, .t 8]),
   o1 1 (.copy 9)])
 (.seq (.seq (.rg [o1 10 (.copy 1),
   o1 11 (.data (.bin .lss) [.t 10, .c (.int .i64 (0))])])
 (.cond (.t 11)
  (.seq (.rg [o1 4 (.lit [.i .i64] [.int .i64 (-1)])])
  .ret)
  .skip))
 (.seq (.rg [o1 12 (.copy 1),
   o1 13 (.idx .nil),
   o1 14 (.load 2 [] 1 (.t 13) 1 false),
   o1 15 (.data .slen [.t 14]),
   o1 16 (.data (.bin .sub) [.t 12, .t 15]),
   o1 1 (.copy 16)])
 (.seq (.seq (.rg [o1 17 (.copy 1),
   o1 18 (.data (.bin .lss) [.t 17, .c (.int .i64 (0))])])
 (.cond (.t 18)
  (.seq (.rg [o1 4 (.lit [.i .i64] [.int .i64 (-1)])])
  .ret)
  .skip))
 (.seq (.rg [o1 19 (.copy 1),
   o1 4 (.copy 19)])
 .ret))))))
def s_lszFile : Sig := ⟨[.rd true [.d, .d, .d], .rd false [.d]], (.one false [.d])⟩
noncomputable def E_lszFile : TEnv := envOf []
noncomputable def f_lszFile (n : Nat) : (ByteArray × ByteArray × Int) × Int → Option ((Int) × Unit) := runFn n E_lszFile c_lszFile [[.s, .s, .i .i64], [.i .i64]] [.i .i64] [] [4] .no
noncomputable def g_lszFile := f_lszFile BIG
noncomputable def p_lszFile : TSp := ⟨s_lszFile, [[.s, .s, .i .i64], [.i .i64]], [.i .i64], [], Ou.j .no, g_lszFile⟩
theorem k_lszFile : chkW PG E_lszFile 276 s_lszFile (c_lszFile.ht 20) .no = some (c_lszFile.wc E_lszFile, [4]) := by kernel_rfl
theorem ok_lszFile : p_lszFile.Ok PG 276 := mkOk (env_nil PG) k_lszFile (by kernel_rfl)
theorem e_lszFile (n : Nat) (a0 : ByteArray × ByteArray × Int) (a1 : Int) : f_lszFile n (a0, a1) =
  bif decide ((IntKind.wrap .i64 (a1 - (a0.1.size : Int))) < (0 : Int)) then
   some ((-1 : Int), ())
  else bif decide ((IntKind.wrap .i64 ((IntKind.wrap .i64 (a1 - (a0.1.size : Int))) - (a0.2.1.size : Int))) < (0 : Int)) then
   some ((-1 : Int), ())
  else some (IntKind.wrap .i64 ((IntKind.wrap .i64 (a1 - (a0.1.size : Int))) - (a0.2.1.size : Int)), ()) := by kernel_rfl
/- laws.szFileS -/
def c_lszFileS : TC :=
 (.seq (.rg [o1 4 (.lit [.i .i64] [.int .i64 (0)])])
 (.seq (.rg [o1 6 (.copy 1),
   o1 7 (.copy 0),
   o1 8 (.len 7),
   o1 9 (.data (.bin .sub) [.t 6, .t 8]),
   o1 1 (.copy 9)])
 (.seq (.seq (.rg [o1 10 (.copy 1),
   o1 11 (.data (.bin .lss) [.t 10, .c (.int .i64 (0))])])
 (.cond (.t 11)
  (.seq (.rg [o1 4 (.lit [.i .i64] [.int .i64 (-1)])])
  .ret)
  .skip))
 (.seq (.join [⟨1, [.i .i64], false⟩] 67104818 (some [⟨4, [.i .i64], false⟩]) (.seq (.rg [o1 5 (.lit [.i .i64] [.int .i64 (0)])])
 (.block 0 (.loop [⟨1, [.i .i64], false⟩, ⟨5, [.i .i64], false⟩] 67104818
  (.seq (.seq (.rg [o1 12 (.copy 5),
    o1 13 (.copy 0),
    o1 14 (.len 13),
    o1 15 (.data (.bin .lss) [.t 12, .t 14])])
  (.cond (.t 15)
   .skip
   (.exit 0)))
  (.seq (.block 1 (.seq (.rg [o1 18 (.copy 0),
    o1 19 (.copy 5),
    o1 20 (.index 18 (.t 19)),
    o1 21 (.load 18 [(0, 3)] 0 (.t 20) 3 false),
    o1 22 (.copy 1),
    o3 23 276 [.t 21, .t 22],
    o1 1 (.copy 23)])
  (.seq (.rg [o1 24 (.copy 1),
    o1 25 (.data (.bin .lss) [.t 24, .c (.int .i64 (0))])])
  (.cond (.t 25)
   (.seq (.rg [o1 4 (.lit [.i .i64] [.int .i64 (-1)])])
   .ret)
   .skip))))
  (.rg [o1 16 (.copy 5),
    o1 17 (.data (.bin .add) [.t 16, .c (.int .i64 (1))]),
    o1 5 (.copy 17)])))))))
 (.seq (.rg [o1 26 (.copy 1),
   o1 4 (.copy 26)])
 .ret)))))
def s_lszFileS : Sig := ⟨[.rd false [.sl (.own none) [.d, .d, .d]], .rd false [.d]], (.one false [.d])⟩
noncomputable def E_lszFileS : TEnv := envOf [(276, p_lszFile)]
noncomputable def f_lszFileS (n : Nat) : (List (ByteArray × ByteArray × Int)) × Int → Option ((Int) × Unit) := runFn n E_lszFileS c_lszFileS [[.sl [.s, .s, .i .i64]], [.i .i64]] [.i .i64] [] [4] .no
noncomputable def g_lszFileS := f_lszFileS BIG
noncomputable def p_lszFileS : TSp := ⟨s_lszFileS, [[.sl [.s, .s, .i .i64]], [.i .i64]], [.i .i64], [], Ou.j .no, g_lszFileS⟩
theorem k_lszFileS : chkW PG E_lszFileS 150 s_lszFileS (c_lszFileS.ht 27) .no = some (c_lszFileS.wc E_lszFileS, [4]) := by kernel_rfl
theorem ok_lszFileS : p_lszFileS.Ok PG 150 := mkOk (env_cons ok_lszFile (env_nil PG)) k_lszFileS (by kernel_rfl)
theorem e_lszFileS (n : Nat) (a0 : List (ByteArray × ByteArray × Int)) (a1 : Int) : f_lszFileS n (a0, a1) =
  bif decide ((IntKind.wrap .i64 (a1 - (a0.length : Int))) < (0 : Int)) then
   some ((-1 : Int), ())
  else Option.bind (loopT n (X := Int × Int) (B := (Int) ⊕ (Int)) (fun self1 x0 =>
    bif decide (x0.2 < (a0.length : Int)) then
     bnd a0.length x0.2 fun n2 =>
     Option.bind a0[n2]? fun y3 =>
     Option.bind (g_lszFile (y3, x0.1)) fun r4 =>
     bif decide (r4.1 < (0 : Int)) then
      some (Sum.inr (-1 : Int))
     else self1 (r4.1, IntKind.wrap .i64 (x0.2 + (1 : Int)))
    else some (Sum.inl x0.1)) (IntKind.wrap .i64 (a1 - (a0.length : Int)), (0 : Int)) : Option ((Int) ⊕ (Int))) fun y => match y with
  | .inl x5 =>
   some (x5, ())
  | .inr x5 =>
   some (x5, ()) := by kernel_rfl
/- laws.szDisk -/
def c_lszDisk : TC :=
 (.seq (.rg [o1 2 (.a (.t 0)),
   o1 4 (.lit [.i .i64] [.int .i64 (0)])])
 (.seq (.rg [o1 5 (.idx .nil),
   o1 6 (.load 2 [] 0 (.t 5) 1 false),
   o1 7 (.copy 1),
   o3 8 150 [.t 6, .t 7],
   o1 1 (.copy 8)])
 (.seq (.seq (.rg [o1 9 (.copy 1),
   o1 10 (.data (.bin .lss) [.t 9, .c (.int .i64 (0))])])
 (.cond (.t 10)
  (.seq (.rg [o1 4 (.lit [.i .i64] [.int .i64 (-1)])])
  .ret)
  .skip))
 (.seq (.rg [o1 11 (.copy 1),
   o1 4 (.copy 11)])
 .ret))))
def s_lszDisk : Sig := ⟨[.rd true [.sl (.own none) [.d, .d, .d]], .rd false [.d]], (.one false [.d])⟩
noncomputable def E_lszDisk : TEnv := envOf [(150, p_lszFileS)]
noncomputable def f_lszDisk (n : Nat) : (List (ByteArray × ByteArray × Int)) × Int → Option ((Int) × Unit) := runFn n E_lszDisk c_lszDisk [[.sl [.s, .s, .i .i64]], [.i .i64]] [.i .i64] [] [4] .no
noncomputable def g_lszDisk := f_lszDisk BIG
noncomputable def p_lszDisk : TSp := ⟨s_lszDisk, [[.sl [.s, .s, .i .i64]], [.i .i64]], [.i .i64], [], Ou.j .no, g_lszDisk⟩
theorem k_lszDisk : chkW PG E_lszDisk 59 s_lszDisk (c_lszDisk.ht 12) .no = some (c_lszDisk.wc E_lszDisk, [4]) := by kernel_rfl
theorem ok_lszDisk : p_lszDisk.Ok PG 59 := mkOk (env_cons ok_lszFileS (env_nil PG)) k_lszDisk (by kernel_rfl)
theorem e_lszDisk (n : Nat) (a0 : List (ByteArray × ByteArray × Int)) (a1 : Int) : f_lszDisk n (a0, a1) =
  Option.bind (g_lszFileS (a0, a1)) fun r0 =>
  bif decide (r0.1 < (0 : Int)) then
   some ((-1 : Int), ())
  else some (r0.1, ()) := by kernel_rfl
/- laws.szDiskS -/
def c_lszDiskS : TC :=
 (.seq (.rg [o1 4 (.lit [.i .i64] [.int .i64 (0)])])
 (.seq (.rg [o1 6 (.copy 1),
   o1 7 (.copy 0),
   o1 8 (.len 7),
   o1 9 (.data (.bin .sub) [.t 6, .t 8]),
   o1 1 (.copy 9)])
 (.seq (.seq (.rg [o1 10 (.copy 1),
   o1 11 (.data (.bin .lss) [.t 10, .c (.int .i64 (0))])])
 (.cond (.t 11)
  (.seq (.rg [o1 4 (.lit [.i .i64] [.int .i64 (-1)])])
  .ret)
  .skip))
 (.seq (.join [⟨1, [.i .i64], false⟩] 67104818 (some [⟨4, [.i .i64], false⟩]) (.seq (.rg [o1 5 (.lit [.i .i64] [.int .i64 (0)])])
 (.block 0 (.loop [⟨1, [.i .i64], false⟩, ⟨5, [.i .i64], false⟩] 67104818
  (.seq (.seq (.rg [o1 12 (.copy 5),
    o1 13 (.copy 0),
    o1 14 (.len 13),
    o1 15 (.data (.bin .lss) [.t 12, .t 14])])
  (.cond (.t 15)
   .skip
   (.exit 0)))
  (.seq (.block 1 (.seq (.rg [o1 18 (.copy 0),
    o1 19 (.copy 5),
    o1 20 (.index 18 (.t 19)),
    o1 21 (.load 18 [(0, 1)] 0 (.t 20) 1 false),
    o1 22 (.copy 1),
    o3 23 59 [.t 21, .t 22],
    o1 1 (.copy 23)])
  (.seq (.rg [o1 24 (.copy 1),
    o1 25 (.data (.bin .lss) [.t 24, .c (.int .i64 (0))])])
  (.cond (.t 25)
   (.seq (.rg [o1 4 (.lit [.i .i64] [.int .i64 (-1)])])
   .ret)
   .skip))))
  (.rg [o1 16 (.copy 5),
    o1 17 (.data (.bin .add) [.t 16, .c (.int .i64 (1))]),
    o1 5 (.copy 17)])))))))
 (.seq (.rg [o1 26 (.copy 1),
   o1 4 (.copy 26)])
 .ret)))))
def s_lszDiskS : Sig := ⟨[.rd false [.sl (.own none) [.sl (.own none) [.d, .d, .d]]], .rd false [.d]], (.one false [.d])⟩
noncomputable def E_lszDiskS : TEnv := envOf [(59, p_lszDisk)]
noncomputable def f_lszDiskS (n : Nat) : (List (List (ByteArray × ByteArray × Int))) × Int → Option ((Int) × Unit) := runFn n E_lszDiskS c_lszDiskS [[.sl [.sl [.s, .s, .i .i64]]], [.i .i64]] [.i .i64] [] [4] .no
noncomputable def g_lszDiskS := f_lszDiskS BIG
noncomputable def p_lszDiskS : TSp := ⟨s_lszDiskS, [[.sl [.sl [.s, .s, .i .i64]]], [.i .i64]], [.i .i64], [], Ou.j .no, g_lszDiskS⟩
theorem k_lszDiskS : chkW PG E_lszDiskS 197 s_lszDiskS (c_lszDiskS.ht 27) .no = some (c_lszDiskS.wc E_lszDiskS, [4]) := by kernel_rfl
theorem ok_lszDiskS : p_lszDiskS.Ok PG 197 := mkOk (env_cons ok_lszDisk (env_nil PG)) k_lszDiskS (by kernel_rfl)
theorem e_lszDiskS (n : Nat) (a0 : List ((List (ByteArray × ByteArray × Int)))) (a1 : Int) : f_lszDiskS n (a0, a1) =
  bif decide ((IntKind.wrap .i64 (a1 - (a0.length : Int))) < (0 : Int)) then
   some ((-1 : Int), ())
  else Option.bind (loopT n (X := Int × Int) (B := (Int) ⊕ (Int)) (fun self1 x0 =>
    bif decide (x0.2 < (a0.length : Int)) then
     bnd a0.length x0.2 fun n2 =>
     Option.bind a0[n2]? fun y3 =>
     Option.bind (g_lszDisk (y3, x0.1)) fun r4 =>
     bif decide (r4.1 < (0 : Int)) then
      some (Sum.inr (-1 : Int))
     else self1 (r4.1, IntKind.wrap .i64 (x0.2 + (1 : Int)))
    else some (Sum.inl x0.1)) (IntKind.wrap .i64 (a1 - (a0.length : Int)), (0 : Int)) : Option ((Int) ⊕ (Int))) fun y => match y with
  | .inl x5 =>
   some (x5, ())
  | .inr x5 =>
   some (x5, ()) := by kernel_rfl
/- laws.szBoolS -/
def c_lszBoolS : TC :=
 (.seq (.rg [o1 4 (.lit [.i .i64] [.int .i64 (0)])])
 (.seq (.rg [o1 5 (.copy 1),
   o1 6 (.copy 0),
   o1 7 (.len 6),
   o1 8 (.data (.bin .sub) [.t 5, .t 7]),
   o1 1 (.copy 8)])
 (.seq (.seq (.rg [o1 9 (.copy 1),
   o1 10 (.data (.bin .lss) [.t 9, .c (.int .i64 (0))])])
 (.cond (.t 10)
  (.seq (.rg [o1 4 (.lit [.i .i64] [.int .i64 (-1)])])
  .ret)
  .skip))
 (.seq (.rg [o1 11 (.copy 1),
   o1 4 (.copy 11)])
 .ret))))
def s_lszBoolS : Sig := ⟨[.rd false [.sl (.own none) [.d]], .rd false [.d]], (.one false [.d])⟩
noncomputable def E_lszBoolS : TEnv := envOf []
noncomputable def f_lszBoolS (n : Nat) : List (Bool) × Int → Option ((Int) × Unit) := runFn n E_lszBoolS c_lszBoolS [[.sl [.b]], [.i .i64]] [.i .i64] [] [4] .no
noncomputable def g_lszBoolS := f_lszBoolS BIG
noncomputable def p_lszBoolS : TSp := ⟨s_lszBoolS, [[.sl [.b]], [.i .i64]], [.i .i64], [], Ou.j .no, g_lszBoolS⟩
theorem k_lszBoolS : chkW PG E_lszBoolS 198 s_lszBoolS (c_lszBoolS.ht 12) .no = some (c_lszBoolS.wc E_lszBoolS, [4]) := by kernel_rfl
theorem ok_lszBoolS : p_lszBoolS.Ok PG 198 := mkOk (env_nil PG) k_lszBoolS (by kernel_rfl)
theorem e_lszBoolS (n : Nat) (a0 : List (Bool)) (a1 : Int) : f_lszBoolS n (a0, a1) =
  bif decide ((IntKind.wrap .i64 (a1 - (a0.length : Int))) < (0 : Int)) then
   some ((-1 : Int), ())
  else some (IntKind.wrap .i64 (a1 - (a0.length : Int)), ()) := by kernel_rfl
/- laws.szPacket -/
def c_lszPacket : TC :=
 (.seq (.rg [o1 2 (.a (.t 0)),
   o1 4 (.lit [.i .i64] [.int .i64 (0)])])
 (.seq (.rg [o1 5 (.copy 1),
   o1 6 (.idx .nil),
   o1 7 (.load 2 [] 2 (.t 6) 1 false),
   o1 8 (.data .slen [.t 7]),
   o1 9 (.data (.bin .sub) [.t 5, .t 8]),
   o1 1 (.copy 9)])
 (.seq (.seq (.rg [o1 10 (.copy 1),
   o1 11 (.data (.bin .lss) [.t 10, .c (.int .i64 (0))])])
 (.cond (.t 11)
  (.seq (.rg [o1 4 (.lit [.i .i64] [.int .i64 (-1)])])
  .ret)
  .skip))
 (.seq (.rg [o1 12 (.copy 1),
   o1 4 (.copy 12)])
 .ret))))
def s_lszPacket : Sig := ⟨[.rd true [.d, .d, .d], .rd false [.d]], (.one false [.d])⟩
noncomputable def E_lszPacket : TEnv := envOf []
noncomputable def f_lszPacket (n : Nat) : (Int × Int × ByteArray) × Int → Option ((Int) × Unit) := runFn n E_lszPacket c_lszPacket [[.i .i64, .i .i64, .s], [.i .i64]] [.i .i64] [] [4] .no
noncomputable def g_lszPacket := f_lszPacket BIG
noncomputable def p_lszPacket : TSp := ⟨s_lszPacket, [[.i .i64, .i .i64, .s], [.i .i64]], [.i .i64], [], Ou.j .no, g_lszPacket⟩
theorem k_lszPacket : chkW PG E_lszPacket 293 s_lszPacket (c_lszPacket.ht 13) .no = some (c_lszPacket.wc E_lszPacket, [4]) := by kernel_rfl
theorem ok_lszPacket : p_lszPacket.Ok PG 293 := mkOk (env_nil PG) k_lszPacket (by kernel_rfl)
theorem e_lszPacket (n : Nat) (a0 : Int × Int × ByteArray) (a1 : Int) : f_lszPacket n (a0, a1) =
  bif decide ((IntKind.wrap .i64 (a1 - (a0.2.2.size : Int))) < (0 : Int)) then
   some ((-1 : Int), ())
  else some (IntKind.wrap .i64 (a1 - (a0.2.2.size : Int)), ()) := by kernel_rfl
/- laws.szPacketS -/
def c_lszPacketS : TC :=
 (.seq (.rg [o1 4 (.lit [.i .i64] [.int .i64 (0)])])
 (.seq (.rg [o1 6 (.copy 1),
   o1 7 (.copy 0),
   o1 8 (.len 7),
   o1 9 (.data (.bin .sub) [.t 6, .t 8]),
   o1 1 (.copy 9)])
 (.seq (.seq (.rg [o1 10 (.copy 1),
   o1 11 (.data (.bin .lss) [.t 10, .c (.int .i64 (0))])])
 (.cond (.t 11)
  (.seq (.rg [o1 4 (.lit [.i .i64] [.int .i64 (-1)])])
  .ret)
  .skip))
 (.seq (.join [⟨1, [.i .i64], false⟩] 67104818 (some [⟨4, [.i .i64], false⟩]) (.seq (.rg [o1 5 (.lit [.i .i64] [.int .i64 (0)])])
 (.block 0 (.loop [⟨1, [.i .i64], false⟩, ⟨5, [.i .i64], false⟩] 67104818
  (.seq (.seq (.rg [o1 12 (.copy 5),
    o1 13 (.copy 0),
    o1 14 (.len 13),
    o1 15 (.data (.bin .lss) [.t 12, .t 14])])
  (.cond (.t 15)
   .skip
   (.exit 0)))
  (.seq (.block 1 (.seq (.rg [o1 18 (.copy 0),
    o1 19 (.copy 5),
    o1 20 (.index 18 (.t 19)),
    o1 21 (.load 18 [(0, 3)] 0 (.t 20) 3 false),
    o1 22 (.copy 1),
    o3 23 293 [.t 21, .t 22],
    o1 1 (.copy 23)])
  (.seq (.rg [o1 24 (.copy 1),
    o1 25 (.data (.bin .lss) [.t 24, .c (.int .i64 (0))])])
  (.cond (.t 25)
   (.seq (.rg [o1 4 (.lit [.i .i64] [.int .i64 (-1)])])
   .ret)
   .skip))))
  (.rg [o1 16 (.copy 5),
    o1 17 (.data (.bin .add) [.t 16, .c (.int .i64 (1))]),
    o1 5 (.copy 17)])))))))
 (.seq (.rg [o1 26 (.copy 1),
   o1 4 (.copy 26)])
 .ret)))))
def s_lszPacketS : Sig := ⟨[.rd false [.sl (.own none) [.d, .d, .d]], .rd false [.d]], (.one false [.d])⟩
noncomputable def E_lszPacketS : TEnv := envOf [(293, p_lszPacket)]
noncomputable def f_lszPacketS (n : Nat) : (List (Int × Int × ByteArray)) × Int → Option ((Int) × Unit) := runFn n E_lszPacketS c_lszPacketS [[.sl [.i .i64, .i .i64, .s]], [.i .i64]] [.i .i64] [] [4] .no
noncomputable def g_lszPacketS := f_lszPacketS BIG
noncomputable def p_lszPacketS : TSp := ⟨s_lszPacketS, [[.sl [.i .i64, .i .i64, .s]], [.i .i64]], [.i .i64], [], Ou.j .no, g_lszPacketS⟩
theorem k_lszPacketS : chkW PG E_lszPacketS 199 s_lszPacketS (c_lszPacketS.ht 27) .no = some (c_lszPacketS.wc E_lszPacketS, [4]) := by kernel_rfl
theorem ok_lszPacketS : p_lszPacketS.Ok PG 199 := mkOk (env_cons ok_lszPacket (env_nil PG)) k_lszPacketS (by kernel_rfl)
theorem e_lszPacketS (n : Nat) (a0 : List (Int × Int × ByteArray)) (a1 : Int) : f_lszPacketS n (a0, a1) =
  bif decide ((IntKind.wrap .i64 (a1 - (a0.length : Int))) < (0 : Int)) then
   some ((-1 : Int), ())
  else Option.bind (loopT n (X := Int × Int) (B := (Int) ⊕ (Int)) (fun self1 x0 =>
    bif decide (x0.2 < (a0.length : Int)) then
     bnd a0.length x0.2 fun n2 =>
     Option.bind a0[n2]? fun y3 =>
     Option.bind (g_lszPacket (y3, x0.1)) fun r4 =>
     bif decide (r4.1 < (0 : Int)) then
      some (Sum.inr (-1 : Int))
     else self1 (r4.1, IntKind.wrap .i64 (x0.2 + (1 : Int)))
    else some (Sum.inl x0.1)) (IntKind.wrap .i64 (a1 - (a0.length : Int)), (0 : Int)) : Option ((Int) ⊕ (Int))) fun y => match y with
  | .inl x5 =>
   some (x5, ())
  | .inr x5 =>
   some (x5, ()) := by kernel_rfl
/- laws.szCallS -/
def c_lszCallS : TC :=
 (.seq (.rg [o1 4 (.lit [.i .i64] [.int .i64 (0)])])
 (.seq (.rg [o1 5 (.copy 1),
   o1 6 (.copy 0),
   o1 7 (.len 6),
   o1 8 (.data (.bin .sub) [.t 5, .t 7]),
   o1 1 (.copy 8)])
 (.seq (.seq (.rg [o1 9 (.copy 1),
   o1 10 (.data (.bin .lss) [.t 9, .c (.int .i64 (0))])])
 (.cond (.t 10)
  (.seq (.rg [o1 4 (.lit [.i .i64] [.int .i64 (-1)])])
  .ret)
  .skip))
 (.seq (.rg [o1 11 (.copy 1),
   o1 4 (.copy 11)])
 .ret))))
def s_lszCallS : Sig := ⟨[.rd false [.sl (.own none) [.d, .d, .d, .d, .d, .d, .d]], .rd false [.d]], (.one false [.d])⟩
noncomputable def E_lszCallS : TEnv := envOf []
noncomputable def f_lszCallS (n : Nat) : (List (Int × Int × Int × Int × Int × Int × Int)) × Int → Option ((Int) × Unit) := runFn n E_lszCallS c_lszCallS [[.sl [.i .i64, .i .i64, .i .i64, .i .i64, .i .i64, .i .i64, .i .i64]], [.i .i64]] [.i .i64] [] [4] .no
noncomputable def g_lszCallS := f_lszCallS BIG
noncomputable def p_lszCallS : TSp := ⟨s_lszCallS, [[.sl [.i .i64, .i .i64, .i .i64, .i .i64, .i .i64, .i .i64, .i .i64]], [.i .i64]], [.i .i64], [], Ou.j .no, g_lszCallS⟩
theorem k_lszCallS : chkW PG E_lszCallS 200 s_lszCallS (c_lszCallS.ht 12) .no = some (c_lszCallS.wc E_lszCallS, [4]) := by kernel_rfl
theorem ok_lszCallS : p_lszCallS.Ok PG 200 := mkOk (env_nil PG) k_lszCallS (by kernel_rfl)
theorem e_lszCallS (n : Nat) (a0 : List (Int × Int × Int × Int × Int × Int × Int)) (a1 : Int) : f_lszCallS n (a0, a1) =
  bif decide ((IntKind.wrap .i64 (a1 - (a0.length : Int))) < (0 : Int)) then
   some ((-1 : Int), ())
  else some (IntKind.wrap .i64 (a1 - (a0.length : Int)), ()) := by kernel_rfl
/- laws.szRec -/
def c_lszRec : TC :=
 (.seq (.rg [o1 2 (.a (.t 0)),
   o1 4 (.lit [.i .i64] [.int .i64 (0)])])
 (.seq (.rg [o1 5 (.idx .nil),
   o1 6 (.load 2 [] 6 (.t 5) 4 false),
   o1 7 (.copy 1),
   o3 8 69 [.t 6, .t 7],
   o1 1 (.copy 8)])
 (.seq (.seq (.rg [o1 9 (.copy 1),
   o1 10 (.data (.bin .lss) [.t 9, .c (.int .i64 (0))])])
 (.cond (.t 10)
  (.seq (.rg [o1 4 (.lit [.i .i64] [.int .i64 (-1)])])
  .ret)
  .skip))
 (.seq (.rg [o1 11 (.idx .nil),
   o1 12 (.load 2 [] 10 (.t 11) 4 false),
   o1 13 (.copy 1),
   o3 14 280 [.t 12, .t 13],
   o1 1 (.copy 14)])
 (.seq (.seq (.rg [o1 15 (.copy 1),
   o1 16 (.data (.bin .lss) [.t 15, .c (.int .i64 (0))])])
 (.cond (.t 16)
  (.seq (.rg [o1 4 (.lit [.i .i64] [.int .i64 (-1)])])
  .ret)
  .skip))
 (.seq (.rg [o1 17 (.copy 1),
   o1 4 (.copy 17)])
 .ret))))))
def s_lszRec : Sig := ⟨[.rd true [.d, .d, .d, .d, .d, .d, .d, .d, .sl (.own none) [.d, .d], .sl (.own none) [.d], .d, .d, .sl (.own none) [.d, .d], .d], .rd false [.d]], (.one false [.d])⟩
noncomputable def E_lszRec : TEnv := envOf [(69, p_lszAnswer), (280, p_lszOrder)]
noncomputable def f_lszRec (n : Nat) : (Int × Int × Int × Int × Int × Int × Int × Bool × List (Int × Int) × List (Int) × Int × Int × List (Int × Int) × Int) × Int → Option ((Int) × Unit) := runFn n E_lszRec c_lszRec [[.i .i64, .i .i64, .i .i64, .i .i64, .i .i64, .i .i64, .i .i64, .b, .sl [.i .i64, .i .i64], .sl [.i .i64], .i .i64, .i .i64, .sl [.i .i64, .i .i64], .i .i64], [.i .i64]] [.i .i64] [] [4] .no
noncomputable def g_lszRec := f_lszRec BIG
noncomputable def p_lszRec : TSp := ⟨s_lszRec, [[.i .i64, .i .i64, .i .i64, .i .i64, .i .i64, .i .i64, .i .i64, .b, .sl [.i .i64, .i .i64], .sl [.i .i64], .i .i64, .i .i64, .sl [.i .i64, .i .i64], .i .i64], [.i .i64]], [.i .i64], [], Ou.j .no, g_lszRec⟩
theorem k_lszRec : chkW PG E_lszRec 294 s_lszRec (c_lszRec.ht 18) .no = some (c_lszRec.wc E_lszRec, [4]) := by kernel_rfl
theorem ok_lszRec : p_lszRec.Ok PG 294 := mkOk (env_cons ok_lszAnswer (env_cons ok_lszOrder (env_nil PG))) k_lszRec (by kernel_rfl)
theorem e_lszRec (n : Nat) (a0 : Int × Int × Int × Int × Int × Int × Int × Bool × List (Int × Int) × List (Int) × Int × Int × List (Int × Int) × Int) (a1 : Int) : f_lszRec n (a0, a1) =
  Option.bind (g_lszAnswer ((a0.2.2.2.2.2.2.1, a0.2.2.2.2.2.2.2.1, a0.2.2.2.2.2.2.2.2.1, a0.2.2.2.2.2.2.2.2.2.1), a1)) fun r0 =>
  bif decide (r0.1 < (0 : Int)) then
   some ((-1 : Int), ())
  else Option.bind (g_lszOrder (a0.2.2.2.2.2.2.2.2.2.2, r0.1)) fun r1 =>
  bif decide (r1.1 < (0 : Int)) then
   some ((-1 : Int), ())
  else some (r1.1, ()) := by kernel_rfl
/- laws.szRecS -/
def c_lszRecS : TC :=
 (.seq (.rg [o1 4 (.lit [.i .i64] [.int .i64 (0)])])
 (.seq (.rg [o1 6 (.copy 1),
   o1 7 (.copy 0),
   o1 8 (.len 7),
   o1 9 (.data (.bin .sub) [.t 6, .t 8]),
   o1 1 (.copy 9)])
 (.seq (.seq (.rg [o1 10 (.copy 1),
   o1 11 (.data (.bin .lss) [.t 10, .c (.int .i64 (0))])])
 (.cond (.t 11)
  (.seq (.rg [o1 4 (.lit [.i .i64] [.int .i64 (-1)])])
  .ret)
  .skip))
 (.seq (.join [⟨1, [.i .i64], false⟩] 67104818 (some [⟨4, [.i .i64], false⟩]) (.seq (.rg [o1 5 (.lit [.i .i64] [.int .i64 (0)])])
 (.block 0 (.loop [⟨1, [.i .i64], false⟩, ⟨5, [.i .i64], false⟩] 67104818
  (.seq (.seq (.rg [o1 12 (.copy 5),
    o1 13 (.copy 0),
    o1 14 (.len 13),
    o1 15 (.data (.bin .lss) [.t 12, .t 14])])
  (.cond (.t 15)
   .skip
   (.exit 0)))
  (.seq (.block 1 (.seq (.rg [o1 18 (.copy 0),
    o1 19 (.copy 5),
    o1 20 (.index 18 (.t 19)),
    o1 21 (.load 18 [(0, 14)] 0 (.t 20) 14 false),
    o1 22 (.copy 1),
    o3 23 294 [.t 21, .t 22],
    o1 1 (.copy 23)])
  (.seq (.rg [o1 24 (.copy 1),
    o1 25 (.data (.bin .lss) [.t 24, .c (.int .i64 (0))])])
  (.cond (.t 25)
   (.seq (.rg [o1 4 (.lit [.i .i64] [.int .i64 (-1)])])
   .ret)
   .skip))))
  (.rg [o1 16 (.copy 5),
    o1 17 (.data (.bin .add) [.t 16, .c (.int .i64 (1))]),
    o1 5 (.copy 17)])))))))
 (.seq (.rg [o1 26 (.copy 1),
   o1 4 (.copy 26)])
 .ret)))))
def s_lszRecS : Sig := ⟨[.rd false [.sl (.own none) [.d, .d, .d, .d, .d, .d, .d, .d, .sl (.own none) [.d, .d], .sl (.own none) [.d], .d, .d, .sl (.own none) [.d, .d], .d]], .rd false [.d]], (.one false [.d])⟩
noncomputable def E_lszRecS : TEnv := envOf [(294, p_lszRec)]
noncomputable def f_lszRecS (n : Nat) : (List (Int × Int × Int × Int × Int × Int × Int × Bool × List (Int × Int) × List (Int) × Int × Int × List (Int × Int) × Int)) × Int → Option ((Int) × Unit) := runFn n E_lszRecS c_lszRecS [[.sl [.i .i64, .i .i64, .i .i64, .i .i64, .i .i64, .i .i64, .i .i64, .b, .sl [.i .i64, .i .i64], .sl [.i .i64], .i .i64, .i .i64, .sl [.i .i64, .i .i64], .i .i64]], [.i .i64]] [.i .i64] [] [4] .no
noncomputable def g_lszRecS := f_lszRecS BIG
noncomputable def p_lszRecS : TSp := ⟨s_lszRecS, [[.sl [.i .i64, .i .i64, .i .i64, .i .i64, .i .i64, .i .i64, .i .i64, .b, .sl [.i .i64, .i .i64], .sl [.i .i64], .i .i64, .i .i64, .sl [.i .i64, .i .i64], .i .i64]], [.i .i64]], [.i .i64], [], Ou.j .no, g_lszRecS⟩
theorem k_lszRecS : chkW PG E_lszRecS 201 s_lszRecS (c_lszRecS.ht 27) .no = some (c_lszRecS.wc E_lszRecS, [4]) := by kernel_rfl
theorem ok_lszRecS : p_lszRecS.Ok PG 201 := mkOk (env_cons ok_lszRec (env_nil PG)) k_lszRecS (by kernel_rfl)
theorem e_lszRecS (n : Nat) (a0 : List (Int × Int × Int × Int × Int × Int × Int × Bool × (List (Int × Int)) × (List (Int)) × Int × Int × (List (Int × Int)) × Int)) (a1 : Int) : f_lszRecS n (a0, a1) =
  bif decide ((IntKind.wrap .i64 (a1 - (a0.length : Int))) < (0 : Int)) then
   some ((-1 : Int), ())
  else Option.bind (loopT n (X := Int × Int) (B := (Int) ⊕ (Int)) (fun self1 x0 =>
    bif decide (x0.2 < (a0.length : Int)) then
     bnd a0.length x0.2 fun n2 =>
     Option.bind a0[n2]? fun y3 =>
     Option.bind (g_lszRec (y3, x0.1)) fun r4 =>
     bif decide (r4.1 < (0 : Int)) then
      some (Sum.inr (-1 : Int))
     else self1 (r4.1, IntKind.wrap .i64 (x0.2 + (1 : Int)))
    else some (Sum.inl x0.1)) (IntKind.wrap .i64 (a1 - (a0.length : Int)), (0 : Int)) : Option ((Int) ⊕ (Int))) fun y => match y with
  | .inl x5 =>
   some (x5, ())
  | .inr x5 =>
   some (x5, ()) := by kernel_rfl
/- laws.szWorld -/
def c_lszWorld : TC :=
 (.seq (.rg [o1 2 (.a (.t 0)),
   o1 4 (.lit [.i .i64] [.int .i64 (0)])])
 (.seq (.rg [o1 5 (.idx .nil),
   o1 6 (.load 2 [] 1 (.t 5) 15 false),
   o1 7 (.copy 1),
   o3 8 68 [.t 6, .t 7],
   o1 1 (.copy 8)])
 (.seq (.seq (.rg [o1 9 (.copy 1),
   o1 10 (.data (.bin .lss) [.t 9, .c (.int .i64 (0))])])
 (.cond (.t 10)
  (.seq (.rg [o1 4 (.lit [.i .i64] [.int .i64 (-1)])])
  .ret)
  .skip))
 (.seq (.rg [o1 11 (.idx .nil),
   o1 12 (.load 2 [] 16 (.t 11) 1 false),
   o1 13 (.copy 1),
   o3 14 196 [.t 12, .t 13],
   o1 1 (.copy 14)])
 (.seq (.seq (.rg [o1 15 (.copy 1),
   o1 16 (.data (.bin .lss) [.t 15, .c (.int .i64 (0))])])
 (.cond (.t 16)
  (.seq (.rg [o1 4 (.lit [.i .i64] [.int .i64 (-1)])])
  .ret)
  .skip))
 (.seq (.rg [o1 17 (.idx .nil),
   o1 18 (.load 2 [] 17 (.t 17) 1 false),
   o1 19 (.copy 1),
   o3 20 197 [.t 18, .t 19],
   o1 1 (.copy 20)])
 (.seq (.seq (.rg [o1 21 (.copy 1),
   o1 22 (.data (.bin .lss) [.t 21, .c (.int .i64 (0))])])
 (.cond (.t 22)
  (.seq (.rg [o1 4 (.lit [.i .i64] [.int .i64 (-1)])])
  .ret)
  .skip))
 (.seq (.rg [o1 23 (.idx .nil),
   o1 24 (.load 2 [] 18 (.t 23) 1 false),
   o1 25 (.copy 1),
   o3 26 198 [.t 24, .t 25],
   o1 1 (.copy 26)])
 (.seq (.seq (.rg [o1 27 (.copy 1),
   o1 28 (.data (.bin .lss) [.t 27, .c (.int .i64 (0))])])
 (.cond (.t 28)
  (.seq (.rg [o1 4 (.lit [.i .i64] [.int .i64 (-1)])])
  .ret)
  .skip))
 (.seq (.rg [o1 29 (.idx .nil),
   o1 30 (.load 2 [] 19 (.t 29) 1 false),
   o1 31 (.copy 1),
   o3 32 199 [.t 30, .t 31],
   o1 1 (.copy 32)])
 (.seq (.seq (.rg [o1 33 (.copy 1),
   o1 34 (.data (.bin .lss) [.t 33, .c (.int .i64 (0))])])
 (.cond (.t 34)
  (.seq (.rg [o1 4 (.lit [.i .i64] [.int .i64 (-1)])])
  .ret)
  .skip))
 (.seq (.rg [o1 35 (.idx .nil),
   o1 36 (.load 2 [] 20 (.t 35) 1 false),
   o1 37 (.copy 1),
   o3 38 200 [.t 36, .t 37],
   o1 1 (.copy 38)])
 (.seq (.seq (.rg [o1 39 (.copy 1),
   o1 40 (.data (.bin .lss) [.t 39, .c (.int .i64 (0))])])
 (.cond (.t 40)
  (.seq (.rg [o1 4 (.lit [.i .i64] [.int .i64 (-1)])])
  .ret)
  .skip))
 (.seq (.rg [o1 41 (.idx .nil),
   o1 42 (.load 2 [] 21 (.t 41) 1 false),
   o1 43 (.copy 1),
   o3 44 201 [.t 42, .t 43],
   o1 1 (.copy 44)])
 (.seq (.seq (.rg [o1 45 (.copy 1),
   o1 46 (.data (.bin .lss) [.t 45, .c (.int .i64 (0))])])
 (.cond (.t 46)
  (.seq (.rg [o1 4 (.lit [.i .i64] [.int .i64 (-1)])])
  .ret)
  .skip))
 (.seq (.rg [o1 47 (.copy 1),
   o1 4 (.copy 47)])
 .ret))))))))))))))))
def s_lszWorld : Sig := ⟨[.rd true [.d, .d, .sl (.own none) [.d], .sl (.own none) [.d, .d], .sl (.own none) [.sl (.own none) [.d]], .sl (.own none) [.d], .d, .d, .d, .d, .d, .d, .d, .sl (.own none) [.d, .d], .d, .sl (.own none) [.d, .d, .d, .d, .d, .d], .sl (.own none) [.d, .d, .sl (.own none) [.d, .d, .d, .d], .d, .d, .sl (.own none) [.d, .d], .sl (.own none) [.d]], .sl (.own none) [.sl (.own none) [.d, .d, .d]], .sl (.own none) [.d], .sl (.own none) [.d, .d, .d], .sl (.own none) [.d, .d, .d, .d, .d, .d, .d], .sl (.own none) [.d, .d, .d, .d, .d, .d, .d, .d, .sl (.own none) [.d, .d], .sl (.own none) [.d], .d, .d, .sl (.own none) [.d, .d], .d]], .rd false [.d]], (.one false [.d])⟩
noncomputable def E_lszWorld : TEnv := envOf [(68, p_lszHead), (196, p_lszShardS), (197, p_lszDiskS), (198, p_lszBoolS), (199, p_lszPacketS), (200, p_lszCallS), (201, p_lszRecS)]
noncomputable def f_lszWorld (n : Nat) : (Int × Int × List (Int) × List (Int × Int) × List (List (Int)) × List (Int) × Int × Int × Int × Int × Int × Int × Int × List (Int × Int) × Int × List (Int × Int × Int × Int × Int × Int) × List (Int × Int × List (Int × Int × Int × Bool) × Int × Bool × List (Int × Int) × List (Int)) × List (List (ByteArray × ByteArray × Int)) × List (Bool) × List (Int × Int × ByteArray) × List (Int × Int × Int × Int × Int × Int × Int) × List (Int × Int × Int × Int × Int × Int × Int × Bool × List (Int × Int) × List (Int) × Int × Int × List (Int × Int) × Int)) × Int → Option ((Int) × Unit) := runFn n E_lszWorld c_lszWorld [[.i .i64, .i .i64, .sl [.i .i64], .sl [.i .i64, .i .i64], .sl [.sl [.i .i64]], .sl [.i .i64], .i .i64, .i .i64, .i .i64, .i .i64, .i .i64, .i .i64, .i .i64, .sl [.i .i64, .i .i64], .i .i64, .sl [.i .i64, .i .i64, .i .i64, .i .i64, .i .i64, .i .i64], .sl [.i .i64, .i .i64, .sl [.i .i64, .i .i64, .i .i64, .b], .i .i64, .b, .sl [.i .i64, .i .i64], .sl [.i .i64]], .sl [.sl [.s, .s, .i .i64]], .sl [.b], .sl [.i .i64, .i .i64, .s], .sl [.i .i64, .i .i64, .i .i64, .i .i64, .i .i64, .i .i64, .i .i64], .sl [.i .i64, .i .i64, .i .i64, .i .i64, .i .i64, .i .i64, .i .i64, .b, .sl [.i .i64, .i .i64], .sl [.i .i64], .i .i64, .i .i64, .sl [.i .i64, .i .i64], .i .i64]], [.i .i64]] [.i .i64] [] [4] .no
noncomputable def g_lszWorld := f_lszWorld BIG
noncomputable def p_lszWorld : TSp := ⟨s_lszWorld, [[.i .i64, .i .i64, .sl [.i .i64], .sl [.i .i64, .i .i64], .sl [.sl [.i .i64]], .sl [.i .i64], .i .i64, .i .i64, .i .i64, .i .i64, .i .i64, .i .i64, .i .i64, .sl [.i .i64, .i .i64], .i .i64, .sl [.i .i64, .i .i64, .i .i64, .i .i64, .i .i64, .i .i64], .sl [.i .i64, .i .i64, .sl [.i .i64, .i .i64, .i .i64, .b], .i .i64, .b, .sl [.i .i64, .i .i64], .sl [.i .i64]], .sl [.sl [.s, .s, .i .i64]], .sl [.b], .sl [.i .i64, .i .i64, .s], .sl [.i .i64, .i .i64, .i .i64, .i .i64, .i .i64, .i .i64, .i .i64], .sl [.i .i64, .i .i64, .i .i64, .i .i64, .i .i64, .i .i64, .i .i64, .b, .sl [.i .i64, .i .i64], .sl [.i .i64], .i .i64, .i .i64, .sl [.i .i64, .i .i64], .i .i64]], [.i .i64]], [.i .i64], [], Ou.j .no, g_lszWorld⟩
theorem k_lszWorld : chkW PG E_lszWorld 81 s_lszWorld (c_lszWorld.ht 48) .no = some (c_lszWorld.wc E_lszWorld, [4]) := by kernel_rfl
theorem ok_lszWorld : p_lszWorld.Ok PG 81 := mkOk (env_cons ok_lszHead (env_cons ok_lszShardS (env_cons ok_lszDiskS (env_cons ok_lszBoolS (env_cons ok_lszPacketS (env_cons ok_lszCallS (env_cons ok_lszRecS (env_nil PG)))))))) k_lszWorld (by kernel_rfl)
theorem e_lszWorld (n : Nat) (a0 : Int × Int × List (Int) × List (Int × Int) × List ((List (Int))) × List (Int) × Int × Int × Int × Int × Int × Int × Int × List (Int × Int) × Int × List (Int × Int × Int × Int × Int × Int) × List (Int × Int × (List (Int × Int × Int × Bool)) × Int × Bool × (List (Int × Int)) × (List (Int))) × List ((List (ByteArray × ByteArray × Int))) × List (Bool) × List (Int × Int × ByteArray) × List (Int × Int × Int × Int × Int × Int × Int) × List (Int × Int × Int × Int × Int × Int × Int × Bool × (List (Int × Int)) × (List (Int)) × Int × Int × (List (Int × Int)) × Int)) (a1 : Int) : f_lszWorld n (a0, a1) =
  Option.bind (g_lszHead ((a0.2.1, a0.2.2.1, a0.2.2.2.1, a0.2.2.2.2.1, a0.2.2.2.2.2.1, a0.2.2.2.2.2.2.1, a0.2.2.2.2.2.2.2.1, a0.2.2.2.2.2.2.2.2.1, a0.2.2.2.2.2.2.2.2.2.1, a0.2.2.2.2.2.2.2.2.2.2.1, a0.2.2.2.2.2.2.2.2.2.2.2.1, a0.2.2.2.2.2.2.2.2.2.2.2.2.1, a0.2.2.2.2.2.2.2.2.2.2.2.2.2.1, a0.2.2.2.2.2.2.2.2.2.2.2.2.2.2.1, a0.2.2.2.2.2.2.2.2.2.2.2.2.2.2.2.1), a1)) fun r0 =>
  bif decide (r0.1 < (0 : Int)) then
   some ((-1 : Int), ())
  else Option.bind (g_lszShardS (a0.2.2.2.2.2.2.2.2.2.2.2.2.2.2.2.2.1, r0.1)) fun r1 =>
  bif decide (r1.1 < (0 : Int)) then
   some ((-1 : Int), ())
  else Option.bind (g_lszDiskS (a0.2.2.2.2.2.2.2.2.2.2.2.2.2.2.2.2.2.1, r1.1)) fun r2 =>
  bif decide (r2.1 < (0 : Int)) then
   some ((-1 : Int), ())
  else Option.bind (g_lszBoolS (a0.2.2.2.2.2.2.2.2.2.2.2.2.2.2.2.2.2.2.1, r2.1)) fun r3 =>
  bif decide (r3.1 < (0 : Int)) then
   some ((-1 : Int), ())
  else Option.bind (g_lszPacketS (a0.2.2.2.2.2.2.2.2.2.2.2.2.2.2.2.2.2.2.2.1, r3.1)) fun r4 =>
  bif decide (r4.1 < (0 : Int)) then
   some ((-1 : Int), ())
  else Option.bind (g_lszCallS (a0.2.2.2.2.2.2.2.2.2.2.2.2.2.2.2.2.2.2.2.2.1, r4.1)) fun r5 =>
  bif decide (r5.1 < (0 : Int)) then
   some ((-1 : Int), ())
  else Option.bind (g_lszRecS (a0.2.2.2.2.2.2.2.2.2.2.2.2.2.2.2.2.2.2.2.2.2, r5.1)) fun r6 =>
  bif decide (r6.1 < (0 : Int)) then
   some ((-1 : Int), ())
  else some (r6.1, ()) := by kernel_rfl
/- laws.toIntS -/
def c_ltoIntS : TC :=
 (.seq (.rg [o1 2 (.lit [.sl [.i .i64]] [.slice none 0 0])])
 (.seq (.rg [o1 5 (.copy 0),
   o1 6 (.len 5),
   o1 7 (.make (.t 6) [.i .i64]),
   ⟨false, [], [], .det 2 (.copy 7), [3, 7], (some 3), none⟩])
 (.seq (.join [⟨3, [.sl [.i .i64]], false⟩] 2096920 none (.seq (.rg [o1 4 (.lit [.i .i64] [.int .i64 (0)])])
 (.block 0 (.loop [⟨3, [.sl [.i .i64]], false⟩, ⟨4, [.i .i64], false⟩] 2096920
  (.seq (.seq (.rg [o1 8 (.copy 4),
    o1 9 (.copy 0),
    o1 10 (.len 9),
    o1 11 (.data (.bin .lss) [.t 8, .t 10])])
  (.cond (.t 11)
   .skip
   (.exit 0)))
  (.seq (.block 1 (.rg [⟨true, [], [], .det 1 (.copy 3), [14], (some 14), none⟩,
    o1 15 (.copy 4),
    o1 16 (.copy 0),
    o1 17 (.copy 4),
    o1 18 (.index 16 (.t 17)),
    o1 19 (.load 16 [(0, 1)] 0 (.t 18) 1 false),
    o1 20 (.index 14 (.t 15)),
    o4 1 [3, 14] (.store 3 [(0, 1)] 0 (.t 20) (.t 19))]))
  (.rg [o1 12 (.copy 4),
    o1 13 (.data (.bin .add) [.t 12, .c (.int .i64 (1))]),
    o1 4 (.copy 13)])))))))
 (.seq (.rg [⟨false, [], [], .det 2 (.copy 3), [21, 3], (some 21), none⟩,
   ⟨false, [], [], .det 2 (.copy 21), [2, 21], (some 2), none⟩])
 .ret))))
def s_ltoIntS : Sig := ⟨[.rd false [.sl (.own none) [.d]]], (.one false [.sl (.own none) [.d]])⟩
noncomputable def E_ltoIntS : TEnv := envOf []
noncomputable def f_ltoIntS (n : Nat) : List (Int) → Option ((List (Int)) × Unit) := runFn n E_ltoIntS c_ltoIntS [[.sl [.i .i64]]] [.sl [.i .i64]] [] [2] .no
noncomputable def g_ltoIntS := f_ltoIntS BIG
noncomputable def p_ltoIntS : TSp := ⟨s_ltoIntS, [[.sl [.i .i64]]], [.sl [.i .i64]], [], Ou.j .no, g_ltoIntS⟩
theorem k_ltoIntS : chkW PG E_ltoIntS 172 s_ltoIntS (c_ltoIntS.ht 22) .no = some (c_ltoIntS.wc E_ltoIntS, [2]) := by kernel_rfl
theorem ok_ltoIntS : p_ltoIntS.Ok PG 172 := mkOk (env_nil PG) k_ltoIntS (by kernel_rfl)
theorem e_ltoIntS (n : Nat) (a0 : List (Int)) : f_ltoIntS n a0 =
  bif decide (0 ≤ (a0.length : Int)) then
   bif decide ((Int.toNat (a0.length : Int)) ≤ 4294967296) then
    Option.bind (loopT n (X := (List (Int)) × Int) (B := (List (Int))) (fun self1 x0 =>
      bif decide (x0.2 < (a0.length : Int)) then
       bnd a0.length x0.2 fun n2 =>
       Option.bind a0[n2]? fun y3 =>
       bnd x0.1.length x0.2 fun n4 =>
       Option.bind x0.1[n4]? fun y5 =>
       self1 (x0.1.set n4 y3, IntKind.wrap .i64 (x0.2 + (1 : Int)))
      else some x0.1) (List.replicate (Int.toNat (a0.length : Int)) (0 : Int), (0 : Int)) : Option ((List (Int)))) fun x6 =>
    some (x6, ())
   else none
  else none := by kernel_rfl
/- laws.toEdge -/
def c_ltoEdge : TC :=
 (.seq (.rg [o1 1 (.a (.t 0)),
   ⟨false, [], [], .det 2 (.a (.c [.i .i64, .i .i64] [.int .i64 (0), .int .i64 (0)])), [2, 1000000001], (some 2), none⟩])
 (.seq (.rg [⟨false, [], [], .det 2 (.a (.c [.i .i64, .i .i64] [.int .i64 (0), .int .i64 (0)])), [3, 1000000001], (some 3), none⟩])
 (.seq (.rg [o1 4 (.idx .nil),
   o1 5 (.load 1 [] 0 (.t 4) 1 false),
   o1 6 (.idx .nil),
   o4 1 [3] (.store 3 [] 0 (.t 6) (.t 5))])
 (.seq (.rg [o1 7 (.idx .nil),
   o1 8 (.load 1 [] 1 (.t 7) 1 false),
   o1 9 (.idx .nil),
   o4 1 [3] (.store 3 [] 1 (.t 9) (.t 8))])
 (.seq (.rg [o1 10 (.load 3 [] 0 .nil 2 false),
   o4 1 [2] (.store 2 [] 0 .nil (.t 10))])
 .ret)))))
def s_ltoEdge : Sig := ⟨[.rd true [.d, .d]], (.one true [.d, .d])⟩
noncomputable def E_ltoEdge : TEnv := envOf []
noncomputable def f_ltoEdge (n : Nat) : (Int × Int) → Option ((Int × Int) × Unit) := runFn n E_ltoEdge c_ltoEdge [[.i .i64, .i .i64]] [.i .i64, .i .i64] [] [2] .no
noncomputable def g_ltoEdge := f_ltoEdge BIG
noncomputable def p_ltoEdge : TSp := ⟨s_ltoEdge, [[.i .i64, .i .i64]], [.i .i64, .i .i64], [], Ou.j .no, g_ltoEdge⟩
theorem k_ltoEdge : chkW PG E_ltoEdge 284 s_ltoEdge (c_ltoEdge.ht 11) .no = some (c_ltoEdge.wc E_ltoEdge, [2]) := by kernel_rfl
theorem ok_ltoEdge : p_ltoEdge.Ok PG 284 := mkOk (env_nil PG) k_ltoEdge (by kernel_rfl)
theorem e_ltoEdge (n : Nat) (a0 : Int × Int) : f_ltoEdge n a0 =
  some (a0, ()) := by kernel_rfl
/- laws.toEdgeS -/
def c_ltoEdgeS : TC :=
 (.seq (.rg [o1 2 (.lit [.sl [.i .i64, .i .i64]] [.slice none 0 0])])
 (.seq (.rg [o1 5 (.copy 0),
   o1 6 (.len 5),
   o1 7 (.make (.t 6) [.i .i64, .i .i64]),
   ⟨false, [], [], .det 2 (.copy 7), [3, 7], (some 3), none⟩])
 (.seq (.join [⟨3, [.sl [.i .i64, .i .i64]], false⟩] 4194072 none (.seq (.rg [o1 4 (.lit [.i .i64] [.int .i64 (0)])])
 (.block 0 (.loop [⟨3, [.sl [.i .i64, .i .i64]], false⟩, ⟨4, [.i .i64], false⟩] 4194072
  (.seq (.seq (.rg [o1 8 (.copy 4),
    o1 9 (.copy 0),
    o1 10 (.len 9),
    o1 11 (.data (.bin .lss) [.t 8, .t 10])])
  (.cond (.t 11)
   .skip
   (.exit 0)))
  (.seq (.block 1 (.rg [⟨true, [], [], .det 1 (.copy 3), [14], (some 14), none⟩,
    o1 15 (.copy 4),
    o1 16 (.copy 0),
    o1 17 (.copy 4),
    o1 18 (.index 16 (.t 17)),
    o1 19 (.load 16 [(0, 2)] 0 (.t 18) 2 false),
    o3 20 284 [.t 19],
    o1 21 (.index 14 (.t 15)),
    o4 1 [3, 14] (.store 3 [(0, 2)] 0 (.t 21) (.t 20))]))
  (.rg [o1 12 (.copy 4),
    o1 13 (.data (.bin .add) [.t 12, .c (.int .i64 (1))]),
    o1 4 (.copy 13)])))))))
 (.seq (.rg [⟨false, [], [], .det 2 (.copy 3), [22, 3], (some 22), none⟩,
   ⟨false, [], [], .det 2 (.copy 22), [2, 22], (some 2), none⟩])
 .ret))))
def s_ltoEdgeS : Sig := ⟨[.rd false [.sl (.own none) [.d, .d]]], (.one false [.sl (.own none) [.d, .d]])⟩
noncomputable def E_ltoEdgeS : TEnv := envOf [(284, p_ltoEdge)]
noncomputable def f_ltoEdgeS (n : Nat) : (List (Int × Int)) → Option ((List (Int × Int)) × Unit) := runFn n E_ltoEdgeS c_ltoEdgeS [[.sl [.i .i64, .i .i64]]] [.sl [.i .i64, .i .i64]] [] [2] .no
noncomputable def g_ltoEdgeS := f_ltoEdgeS BIG
noncomputable def p_ltoEdgeS : TSp := ⟨s_ltoEdgeS, [[.sl [.i .i64, .i .i64]]], [.sl [.i .i64, .i .i64]], [], Ou.j .no, g_ltoEdgeS⟩
theorem k_ltoEdgeS : chkW PG E_ltoEdgeS 173 s_ltoEdgeS (c_ltoEdgeS.ht 23) .no = some (c_ltoEdgeS.wc E_ltoEdgeS, [2]) := by kernel_rfl
theorem ok_ltoEdgeS : p_ltoEdgeS.Ok PG 173 := mkOk (env_cons ok_ltoEdge (env_nil PG)) k_ltoEdgeS (by kernel_rfl)
theorem e_ltoEdgeS (n : Nat) (a0 : List (Int × Int)) : f_ltoEdgeS n a0 =
  bif decide (0 ≤ (a0.length : Int)) then
   bif decide ((Int.toNat (a0.length : Int)) ≤ 4294967296) then
    Option.bind (loopT n (X := (List (Int × Int)) × Int) (B := (List (Int × Int))) (fun self1 x0 =>
      bif decide (x0.2 < (a0.length : Int)) then
       bnd a0.length x0.2 fun n2 =>
       Option.bind a0[n2]? fun y3 =>
       Option.bind (g_ltoEdge y3) fun r4 =>
       bnd x0.1.length x0.2 fun n5 =>
       Option.bind x0.1[n5]? fun y6 =>
       self1 (x0.1.set n5 r4.1, IntKind.wrap .i64 (x0.2 + (1 : Int)))
      else some x0.1) (List.replicate (Int.toNat (a0.length : Int)) ((0 : Int), (0 : Int)), (0 : Int)) : Option ((List (Int × Int)))) fun x7 =>
    some (x7, ())
   else none
  else none := by kernel_rfl
/- laws.toIntSS -/
def c_ltoIntSS : TC :=
 (.seq (.rg [o1 2 (.lit [.sl [.sl [.i .i64]]] [.slice none 0 0])])
 (.seq (.rg [o1 5 (.copy 0),
   o1 6 (.len 5),
   o1 7 (.make (.t 6) [.sl [.i .i64]]),
   ⟨false, [], [], .det 2 (.copy 7), [3, 7], (some 3), none⟩])
 (.seq (.join [⟨3, [.sl [.sl [.i .i64]]], false⟩] 4194072 none (.seq (.rg [o1 4 (.lit [.i .i64] [.int .i64 (0)])])
 (.block 0 (.loop [⟨3, [.sl [.sl [.i .i64]]], false⟩, ⟨4, [.i .i64], false⟩] 4194072
  (.seq (.seq (.rg [o1 8 (.copy 4),
    o1 9 (.copy 0),
    o1 10 (.len 9),
    o1 11 (.data (.bin .lss) [.t 8, .t 10])])
  (.cond (.t 11)
   .skip
   (.exit 0)))
  (.seq (.block 1 (.rg [⟨true, [], [], .det 1 (.copy 3), [14], (some 14), none⟩,
    o1 15 (.copy 4),
    o1 16 (.copy 0),
    o1 17 (.copy 4),
    o1 18 (.index 16 (.t 17)),
    o1 19 (.load 16 [(0, 1)] 0 (.t 18) 1 false),
    o3 20 172 [.t 19],
    o1 21 (.index 14 (.t 15)),
    o4 2 [3, 20, 21, 14] (.store 3 [(0, 1)] 0 (.t 21) (.t 20))]))
  (.rg [o1 12 (.copy 4),
    o1 13 (.data (.bin .add) [.t 12, .c (.int .i64 (1))]),
    o1 4 (.copy 13)])))))))
 (.seq (.rg [⟨false, [], [], .det 2 (.copy 3), [22, 3], (some 22), none⟩,
   ⟨false, [], [], .det 2 (.copy 22), [2, 22], (some 2), none⟩])
 .ret))))
def s_ltoIntSS : Sig := ⟨[.rd false [.sl (.own none) [.sl (.own none) [.d]]]], (.one false [.sl (.own none) [.sl (.own none) [.d]]])⟩
noncomputable def E_ltoIntSS : TEnv := envOf [(172, p_ltoIntS)]
noncomputable def f_ltoIntSS (n : Nat) : List (List (Int)) → Option ((List (List (Int))) × Unit) := runFn n E_ltoIntSS c_ltoIntSS [[.sl [.sl [.i .i64]]]] [.sl [.sl [.i .i64]]] [] [2] .no
noncomputable def g_ltoIntSS := f_ltoIntSS BIG
noncomputable def p_ltoIntSS : TSp := ⟨s_ltoIntSS, [[.sl [.sl [.i .i64]]]], [.sl [.sl [.i .i64]]], [], Ou.j .no, g_ltoIntSS⟩
theorem k_ltoIntSS : chkW PG E_ltoIntSS 174 s_ltoIntSS (c_ltoIntSS.ht 23) .no = some (c_ltoIntSS.wc E_ltoIntSS, [2]) := by kernel_rfl
theorem ok_ltoIntSS : p_ltoIntSS.Ok PG 174 := mkOk (env_cons ok_ltoIntS (env_nil PG)) k_ltoIntSS (by kernel_rfl)
theorem e_ltoIntSS (n : Nat) (a0 : List ((List (Int)))) : f_ltoIntSS n a0 =
  bif decide (0 ≤ (a0.length : Int)) then
   bif decide ((Int.toNat (a0.length : Int)) ≤ 4294967296) then
    Option.bind (loopT n (X := (List ((List (Int)))) × Int) (B := (List ((List (Int))))) (fun self1 x0 =>
      bif decide (x0.2 < (a0.length : Int)) then
       bnd a0.length x0.2 fun n2 =>
       Option.bind a0[n2]? fun y3 =>
       Option.bind (g_ltoIntS y3) fun r4 =>
       bnd x0.1.length x0.2 fun n5 =>
       Option.bind x0.1[n5]? fun y6 =>
       self1 (x0.1.set n5 r4.1, IntKind.wrap .i64 (x0.2 + (1 : Int)))
      else some x0.1) (List.replicate (Int.toNat (a0.length : Int)) [], (0 : Int)) : Option ((List ((List (Int)))))) fun x7 =>
    some (x7, ())
   else none
  else none := by kernel_rfl
/- laws.toAsk -/
def c_ltoAsk : TC :=
 (.seq (.rg [o1 1 (.a (.t 0)),
   ⟨false, [], [], .det 2 (.a (.c [.i .i64, .i .i64, .i .i64, .i .i64] [.int .i64 (0), .int .i64 (0), .int .i64 (0), .int .i64 (0)])), [2, 1000000001], (some 2), none⟩])
 (.seq (.rg [⟨false, [], [], .det 2 (.a (.c [.i .i64, .i .i64, .i .i64, .i .i64] [.int .i64 (0), .int .i64 (0), .int .i64 (0), .int .i64 (0)])), [3, 1000000001], (some 3), none⟩])
 (.seq (.rg [o1 4 (.idx .nil),
   o1 5 (.load 1 [] 0 (.t 4) 1 false),
   o1 6 (.idx .nil),
   o4 1 [3] (.store 3 [] 0 (.t 6) (.t 5))])
 (.seq (.rg [o1 7 (.idx .nil),
   o1 8 (.load 1 [] 1 (.t 7) 1 false),
   o1 9 (.idx .nil),
   o4 1 [3] (.store 3 [] 1 (.t 9) (.t 8))])
 (.seq (.rg [o1 10 (.idx .nil),
   o1 11 (.load 1 [] 2 (.t 10) 1 false),
   o1 12 (.idx .nil),
   o4 1 [3] (.store 3 [] 2 (.t 12) (.t 11))])
 (.seq (.rg [o1 13 (.idx .nil),
   o1 14 (.load 1 [] 3 (.t 13) 1 false),
   o1 15 (.idx .nil),
   o4 1 [3] (.store 3 [] 3 (.t 15) (.t 14))])
 (.seq (.rg [o1 16 (.load 3 [] 0 .nil 4 false),
   o4 1 [2] (.store 2 [] 0 .nil (.t 16))])
 .ret)))))))
def s_ltoAsk : Sig := ⟨[.rd true [.d, .d, .d, .d]], (.one true [.d, .d, .d, .d])⟩
noncomputable def E_ltoAsk : TEnv := envOf []
noncomputable def f_ltoAsk (n : Nat) : (Int × Int × Int × Int) → Option ((Int × Int × Int × Int) × Unit) := runFn n E_ltoAsk c_ltoAsk [[.i .i64, .i .i64, .i .i64, .i .i64]] [.i .i64, .i .i64, .i .i64, .i .i64] [] [2] .no
noncomputable def g_ltoAsk := f_ltoAsk BIG
noncomputable def p_ltoAsk : TSp := ⟨s_ltoAsk, [[.i .i64, .i .i64, .i .i64, .i .i64]], [.i .i64, .i .i64, .i .i64, .i .i64], [], Ou.j .no, g_ltoAsk⟩
theorem k_ltoAsk : chkW PG E_ltoAsk 80 s_ltoAsk (c_ltoAsk.ht 17) .no = some (c_ltoAsk.wc E_ltoAsk, [2]) := by kernel_rfl
theorem ok_ltoAsk : p_ltoAsk.Ok PG 80 := mkOk (env_nil PG) k_ltoAsk (by kernel_rfl)
theorem e_ltoAsk (n : Nat) (a0 : Int × Int × Int × Int) : f_ltoAsk n a0 =
  some (a0, ()) := by kernel_rfl
/- laws.toOrder -/
def c_ltoOrder : TC :=
 (.seq (.rg [o1 1 (.a (.t 0)),
   ⟨false, [], [], .det 2 (.a (.c [.i .i64, .i .i64, .sl [.i .i64, .i .i64], .i .i64] [.int .i64 (0), .int .i64 (0), .slice none 0 0, .int .i64 (0)])), [2, 1000000001], (some 2), none⟩])
 (.seq (.rg [⟨false, [], [], .det 2 (.a (.c [.i .i64, .i .i64, .sl [.i .i64, .i .i64], .i .i64] [.int .i64 (0), .int .i64 (0), .slice none 0 0, .int .i64 (0)])), [3, 1000000001], (some 3), none⟩])
 (.seq (.rg [o1 4 (.idx .nil),
   o1 5 (.load 1 [] 0 (.t 4) 1 false),
   o1 6 (.idx .nil),
   o4 1 [3] (.store 3 [] 0 (.t 6) (.t 5))])
 (.seq (.rg [o1 7 (.idx .nil),
   o1 8 (.load 1 [] 1 (.t 7) 1 false),
   o1 9 (.idx .nil),
   o4 1 [3] (.store 3 [] 1 (.t 9) (.t 8))])
 (.seq (.rg [o1 10 (.idx .nil),
   o1 11 (.load 1 [] 2 (.t 10) 1 false),
   o3 12 173 [.t 11],
   o1 13 (.idx .nil),
   o4 2 [3, 12] (.store 3 [] 2 (.t 13) (.t 12))])
 (.seq (.rg [o1 14 (.idx .nil),
   o1 15 (.load 1 [] 3 (.t 14) 1 false),
   o1 16 (.idx .nil),
   o4 1 [3] (.store 3 [] 3 (.t 16) (.t 15))])
 (.seq (.rg [o1 17 (.load 3 [] 0 .nil 4 true),
   ⟨false, [17], [], .det 2 (.store 2 [] 0 .nil (.t 17)), [2, 17, 17, 3], none, none⟩])
 .ret)))))))
def s_ltoOrder : Sig := ⟨[.rd true [.d, .d, .sl (.own none) [.d, .d], .d]], (.one true [.d, .d, .sl (.own none) [.d, .d], .d])⟩
noncomputable def E_ltoOrder : TEnv := envOf [(173, p_ltoEdgeS)]
noncomputable def f_ltoOrder (n : Nat) : (Int × Int × List (Int × Int) × Int) → Option ((Int × Int × List (Int × Int) × Int) × Unit) := runFn n E_ltoOrder c_ltoOrder [[.i .i64, .i .i64, .sl [.i .i64, .i .i64], .i .i64]] [.i .i64, .i .i64, .sl [.i .i64, .i .i64], .i .i64] [] [2] .no
noncomputable def g_ltoOrder := f_ltoOrder BIG
noncomputable def p_ltoOrder : TSp := ⟨s_ltoOrder, [[.i .i64, .i .i64, .sl [.i .i64, .i .i64], .i .i64]], [.i .i64, .i .i64, .sl [.i .i64, .i .i64], .i .i64], [], Ou.j .no, g_ltoOrder⟩
theorem k_ltoOrder : chkW PG E_ltoOrder 285 s_ltoOrder (c_ltoOrder.ht 18) .no = some (c_ltoOrder.wc E_ltoOrder, [2]) := by kernel_rfl
theorem ok_ltoOrder : p_ltoOrder.Ok PG 285 := mkOk (env_cons ok_ltoEdgeS (env_nil PG)) k_ltoOrder (by kernel_rfl)
theorem e_ltoOrder (n : Nat) (a0 : Int × Int × List (Int × Int) × Int) : f_ltoOrder n a0 =
  Option.bind (g_ltoEdgeS a0.2.2.1) fun r0 =>
  some ((a0.1, a0.2.1, r0.1, a0.2.2.2), ()) := by kernel_rfl
/- laws.toTask -/
def c_ltoTask : TC :=
 (.seq (.rg [o1 1 (.a (.t 0)),
   ⟨false, [], [], .det 2 (.a (.c [.i .i64, .i .i64, .i .i64, .i .i64, .i .i64, .i .i64, .i .i64, .sl [.i .i64, .i .i64], .i .i64] [.int .i64 (0), .int .i64 (0), .int .i64 (0), .int .i64 (0), .int .i64 (0), .int .i64 (0), .int .i64 (0), .slice none 0 0, .int .i64 (0)])), [2, 1000000001], (some 2), none⟩])
 (.seq (.rg [⟨false, [], [], .det 2 (.a (.c [.i .i64, .i .i64, .i .i64, .i .i64, .i .i64, .i .i64, .i .i64, .sl [.i .i64, .i .i64], .i .i64] [.int .i64 (0), .int .i64 (0), .int .i64 (0), .int .i64 (0), .int .i64 (0), .int .i64 (0), .int .i64 (0), .slice none 0 0, .int .i64 (0)])), [3, 1000000001], (some 3), none⟩])
 (.seq (.rg [o1 4 (.idx .nil),
   o1 5 (.load 1 [] 0 (.t 4) 4 false),
   o3 6 80 [.t 5],
   o1 7 (.idx .nil),
   o4 1 [3] (.store 3 [] 0 (.t 7) (.t 6))])
 (.seq (.rg [o1 8 (.idx .nil),
   o1 9 (.load 1 [] 4 (.t 8) 1 false),
   o1 10 (.idx .nil),
   o4 1 [3] (.store 3 [] 4 (.t 10) (.t 9))])
 (.seq (.rg [o1 11 (.idx .nil),
   o1 12 (.load 1 [] 5 (.t 11) 4 false),
   o3 13 285 [.t 12],
   o1 14 (.idx .nil),
   o4 2 [3, 13] (.store 3 [] 5 (.t 14) (.t 13))])
 (.seq (.rg [o1 15 (.load 3 [] 0 .nil 9 true),
   ⟨false, [15], [], .det 2 (.store 2 [] 0 .nil (.t 15)), [2, 15, 15, 3], none, none⟩])
 .ret))))))
def s_ltoTask : Sig := ⟨[.rd true [.d, .d, .d, .d, .d, .d, .d, .sl (.own none) [.d, .d], .d]], (.one true [.d, .d, .d, .d, .d, .d, .d, .sl (.own none) [.d, .d], .d])⟩
noncomputable def E_ltoTask : TEnv := envOf [(80, p_ltoAsk), (285, p_ltoOrder)]
noncomputable def f_ltoTask (n : Nat) : (Int × Int × Int × Int × Int × Int × Int × List (Int × Int) × Int) → Option ((Int × Int × Int × Int × Int × Int × Int × List (Int × Int) × Int) × Unit) := runFn n E_ltoTask c_ltoTask [[.i .i64, .i .i64, .i .i64, .i .i64, .i .i64, .i .i64, .i .i64, .sl [.i .i64, .i .i64], .i .i64]] [.i .i64, .i .i64, .i .i64, .i .i64, .i .i64, .i .i64, .i .i64, .sl [.i .i64, .i .i64], .i .i64] [] [2] .no
noncomputable def g_ltoTask := f_ltoTask BIG
noncomputable def p_ltoTask : TSp := ⟨s_ltoTask, [[.i .i64, .i .i64, .i .i64, .i .i64, .i .i64, .i .i64, .i .i64, .sl [.i .i64, .i .i64], .i .i64]], [.i .i64, .i .i64, .i .i64, .i .i64, .i .i64, .i .i64, .i .i64, .sl [.i .i64, .i .i64], .i .i64], [], Ou.j .no, g_ltoTask⟩
theorem k_ltoTask : chkW PG E_ltoTask 175 s_ltoTask (c_ltoTask.ht 16) .no = some (c_ltoTask.wc E_ltoTask, [2]) := by kernel_rfl
theorem ok_ltoTask : p_ltoTask.Ok PG 175 := mkOk (env_cons ok_ltoAsk (env_cons ok_ltoOrder (env_nil PG))) k_ltoTask (by kernel_rfl)
theorem e_ltoTask (n : Nat) (a0 : Int × Int × Int × Int × Int × Int × Int × List (Int × Int) × Int) : f_ltoTask n a0 =
  Option.bind (g_ltoAsk (a0.1, a0.2.1, a0.2.2.1, a0.2.2.2.1)) fun r0 =>
  Option.bind (g_ltoOrder a0.2.2.2.2.2) fun r1 =>
  some ((r0.1.1, r0.1.2.1, r0.1.2.2.1, r0.1.2.2.2, a0.2.2.2.2.1, r1.1), ()) := by kernel_rfl
/- laws.toSaid -/
def c_ltoSaid : TC :=
 (.seq (.rg [o1 1 (.a (.t 0)),
   ⟨false, [], [], .det 2 (.a (.c [.i .i64, .i .i64, .i .i64, .i .i64, .i .i64, .i .i64] [.int .i64 (0), .int .i64 (0), .int .i64 (0), .int .i64 (0), .int .i64 (0), .int .i64 (0)])), [2, 1000000001], (some 2), none⟩])
 (.seq (.rg [⟨false, [], [], .det 2 (.a (.c [.i .i64, .i .i64, .i .i64, .i .i64, .i .i64, .i .i64] [.int .i64 (0), .int .i64 (0), .int .i64 (0), .int .i64 (0), .int .i64 (0), .int .i64 (0)])), [3, 1000000001], (some 3), none⟩])
 (.seq (.rg [o1 4 (.idx .nil),
   o1 5 (.load 1 [] 0 (.t 4) 1 false),
   o1 6 (.idx .nil),
   o4 1 [3] (.store 3 [] 0 (.t 6) (.t 5))])
 (.seq (.rg [o1 7 (.idx .nil),
   o1 8 (.load 1 [] 1 (.t 7) 4 false),
   o3 9 80 [.t 8],
   o1 10 (.idx .nil),
   o4 1 [3] (.store 3 [] 1 (.t 10) (.t 9))])
 (.seq (.rg [o1 11 (.idx .nil),
   o1 12 (.load 1 [] 5 (.t 11) 1 false),
   o1 13 (.idx .nil),
   o4 1 [3] (.store 3 [] 5 (.t 13) (.t 12))])
 (.seq (.rg [o1 14 (.load 3 [] 0 .nil 6 false),
   o4 1 [2] (.store 2 [] 0 .nil (.t 14))])
 .ret))))))
def s_ltoSaid : Sig := ⟨[.rd true [.d, .d, .d, .d, .d, .d]], (.one true [.d, .d, .d, .d, .d, .d])⟩
noncomputable def E_ltoSaid : TEnv := envOf [(80, p_ltoAsk)]
noncomputable def f_ltoSaid (n : Nat) : (Int × Int × Int × Int × Int × Int) → Option ((Int × Int × Int × Int × Int × Int) × Unit) := runFn n E_ltoSaid c_ltoSaid [[.i .i64, .i .i64, .i .i64, .i .i64, .i .i64, .i .i64]] [.i .i64, .i .i64, .i .i64, .i .i64, .i .i64, .i .i64] [] [2] .no
noncomputable def g_ltoSaid := f_ltoSaid BIG
noncomputable def p_ltoSaid : TSp := ⟨s_ltoSaid, [[.i .i64, .i .i64, .i .i64, .i .i64, .i .i64, .i .i64]], [.i .i64, .i .i64, .i .i64, .i .i64, .i .i64, .i .i64], [], Ou.j .no, g_ltoSaid⟩
theorem k_ltoSaid : chkW PG E_ltoSaid 286 s_ltoSaid (c_ltoSaid.ht 15) .no = some (c_ltoSaid.wc E_ltoSaid, [2]) := by kernel_rfl
theorem ok_ltoSaid : p_ltoSaid.Ok PG 286 := mkOk (env_cons ok_ltoAsk (env_nil PG)) k_ltoSaid (by kernel_rfl)
theorem e_ltoSaid (n : Nat) (a0 : Int × Int × Int × Int × Int × Int) : f_ltoSaid n a0 =
  Option.bind (g_ltoAsk (a0.2.1, a0.2.2.1, a0.2.2.2.1, a0.2.2.2.2.1)) fun r0 =>
  some ((a0.1, r0.1.1, r0.1.2.1, r0.1.2.2.1, r0.1.2.2.2, a0.2.2.2.2.2), ()) := by kernel_rfl
/- laws.toSaidS -/
def c_ltoSaidS : TC :=
 (.seq (.rg [o1 2 (.lit [.sl [.i .i64, .i .i64, .i .i64, .i .i64, .i .i64, .i .i64]] [.slice none 0 0])])
 (.seq (.rg [o1 5 (.copy 0),
   o1 6 (.len 5),
   o1 7 (.make (.t 6) [.i .i64, .i .i64, .i .i64, .i .i64, .i .i64, .i .i64]),
   ⟨false, [], [], .det 2 (.copy 7), [3, 7], (some 3), none⟩])
 (.seq (.join [⟨3, [.sl [.i .i64, .i .i64, .i .i64, .i .i64, .i .i64, .i .i64]], false⟩] 4194072 none (.seq (.rg [o1 4 (.lit [.i .i64] [.int .i64 (0)])])
 (.block 0 (.loop [⟨3, [.sl [.i .i64, .i .i64, .i .i64, .i .i64, .i .i64, .i .i64]], false⟩, ⟨4, [.i .i64], false⟩] 4194072
  (.seq (.seq (.rg [o1 8 (.copy 4),
    o1 9 (.copy 0),
    o1 10 (.len 9),
    o1 11 (.data (.bin .lss) [.t 8, .t 10])])
  (.cond (.t 11)
   .skip
   (.exit 0)))
  (.seq (.block 1 (.rg [⟨true, [], [], .det 1 (.copy 3), [14], (some 14), none⟩,
    o1 15 (.copy 4),
    o1 16 (.copy 0),
    o1 17 (.copy 4),
    o1 18 (.index 16 (.t 17)),
    o1 19 (.load 16 [(0, 6)] 0 (.t 18) 6 false),
    o3 20 286 [.t 19],
    o1 21 (.index 14 (.t 15)),
    o4 1 [3, 14] (.store 3 [(0, 6)] 0 (.t 21) (.t 20))]))
  (.rg [o1 12 (.copy 4),
    o1 13 (.data (.bin .add) [.t 12, .c (.int .i64 (1))]),
    o1 4 (.copy 13)])))))))
 (.seq (.rg [⟨false, [], [], .det 2 (.copy 3), [22, 3], (some 22), none⟩,
   ⟨false, [], [], .det 2 (.copy 22), [2, 22], (some 2), none⟩])
 .ret))))
def s_ltoSaidS : Sig := ⟨[.rd false [.sl (.own none) [.d, .d, .d, .d, .d, .d]]], (.one false [.sl (.own none) [.d, .d, .d, .d, .d, .d]])⟩
noncomputable def E_ltoSaidS : TEnv := envOf [(286, p_ltoSaid)]
noncomputable def f_ltoSaidS (n : Nat) : (List (Int × Int × Int × Int × Int × Int)) → Option ((List (Int × Int × Int × Int × Int × Int)) × Unit) := runFn n E_ltoSaidS c_ltoSaidS [[.sl [.i .i64, .i .i64, .i .i64, .i .i64, .i .i64, .i .i64]]] [.sl [.i .i64, .i .i64, .i .i64, .i .i64, .i .i64, .i .i64]] [] [2] .no
noncomputable def g_ltoSaidS := f_ltoSaidS BIG
noncomputable def p_ltoSaidS : TSp := ⟨s_ltoSaidS, [[.sl [.i .i64, .i .i64, .i .i64, .i .i64, .i .i64, .i .i64]]], [.sl [.i .i64, .i .i64, .i .i64, .i .i64, .i .i64, .i .i64]], [], Ou.j .no, g_ltoSaidS⟩
theorem k_ltoSaidS : chkW PG E_ltoSaidS 176 s_ltoSaidS (c_ltoSaidS.ht 23) .no = some (c_ltoSaidS.wc E_ltoSaidS, [2]) := by kernel_rfl
theorem ok_ltoSaidS : p_ltoSaidS.Ok PG 176 := mkOk (env_cons ok_ltoSaid (env_nil PG)) k_ltoSaidS (by kernel_rfl)
theorem e_ltoSaidS (n : Nat) (a0 : List (Int × Int × Int × Int × Int × Int)) : f_ltoSaidS n a0 =
  bif decide (0 ≤ (a0.length : Int)) then
   bif decide ((Int.toNat (a0.length : Int)) ≤ 4294967296) then
    Option.bind (loopT n (X := (List (Int × Int × Int × Int × Int × Int)) × Int) (B := (List (Int × Int × Int × Int × Int × Int))) (fun self1 x0 =>
      bif decide (x0.2 < (a0.length : Int)) then
       bnd a0.length x0.2 fun n2 =>
       Option.bind a0[n2]? fun y3 =>
       Option.bind (g_ltoSaid y3) fun r4 =>
       bnd x0.1.length x0.2 fun n5 =>
       Option.bind x0.1[n5]? fun y6 =>
       self1 (x0.1.set n5 r4.1, IntKind.wrap .i64 (x0.2 + (1 : Int)))
      else some x0.1) (List.replicate (Int.toNat (a0.length : Int)) ((0 : Int), (0 : Int), (0 : Int), (0 : Int), (0 : Int), (0 : Int)), (0 : Int)) : Option ((List (Int × Int × Int × Int × Int × Int)))) fun x7 =>
    some (x7, ())
   else none
  else none := by kernel_rfl
/- laws.toHead -/
def c_ltoHead : TC :=
 (.seq (.rg [o1 1 (.a (.t 0)),
   ⟨false, [], [], .det 2 (.a (.c [.i .i64, .sl [.i .i64], .sl [.i .i64, .i .i64], .sl [.sl [.i .i64]], .sl [.i .i64], .i .i64, .i .i64, .i .i64, .i .i64, .i .i64, .i .i64, .i .i64, .sl [.i .i64, .i .i64], .i .i64, .sl [.i .i64, .i .i64, .i .i64, .i .i64, .i .i64, .i .i64]] [.int .i64 (0), .slice none 0 0, .slice none 0 0, .slice none 0 0, .slice none 0 0, .int .i64 (0), .int .i64 (0), .int .i64 (0), .int .i64 (0), .int .i64 (0), .int .i64 (0), .int .i64 (0), .slice none 0 0, .int .i64 (0), .slice none 0 0])), [2, 1000000001], (some 2), none⟩])
 (.seq (.rg [⟨false, [], [], .det 2 (.a (.c [.i .i64, .sl [.i .i64], .sl [.i .i64, .i .i64], .sl [.sl [.i .i64]], .sl [.i .i64], .i .i64, .i .i64, .i .i64, .i .i64, .i .i64, .i .i64, .i .i64, .sl [.i .i64, .i .i64], .i .i64, .sl [.i .i64, .i .i64, .i .i64, .i .i64, .i .i64, .i .i64]] [.int .i64 (0), .slice none 0 0, .slice none 0 0, .slice none 0 0, .slice none 0 0, .int .i64 (0), .int .i64 (0), .int .i64 (0), .int .i64 (0), .int .i64 (0), .int .i64 (0), .int .i64 (0), .slice none 0 0, .int .i64 (0), .slice none 0 0])), [3, 1000000001], (some 3), none⟩])
 (.seq (.rg [o1 4 (.idx .nil),
   o1 5 (.load 1 [] 0 (.t 4) 1 false),
   o1 6 (.idx .nil),
   o4 1 [3] (.store 3 [] 0 (.t 6) (.t 5))])
 (.seq (.rg [o1 7 (.idx .nil),
   o1 8 (.load 1 [] 1 (.t 7) 1 false),
   o3 9 172 [.t 8],
   o1 10 (.idx .nil),
   o4 2 [3, 9] (.store 3 [] 1 (.t 10) (.t 9))])
 (.seq (.rg [o1 11 (.idx .nil),
   o1 12 (.load 1 [] 2 (.t 11) 1 false),
   o3 13 173 [.t 12],
   o1 14 (.idx .nil),
   o4 2 [3, 13] (.store 3 [] 2 (.t 14) (.t 13))])
 (.seq (.rg [o1 15 (.idx .nil),
   o1 16 (.load 1 [] 3 (.t 15) 1 false),
   o3 17 174 [.t 16],
   o1 18 (.idx .nil),
   o4 2 [3, 17] (.store 3 [] 3 (.t 18) (.t 17))])
 (.seq (.rg [o1 19 (.idx .nil),
   o1 20 (.load 1 [] 4 (.t 19) 1 false),
   o3 21 172 [.t 20],
   o1 22 (.idx .nil),
   o4 2 [3, 21] (.store 3 [] 4 (.t 22) (.t 21))])
 (.seq (.rg [o1 23 (.idx .nil),
   o1 24 (.load 1 [] 5 (.t 23) 9 false),
   o3 25 175 [.t 24],
   o1 26 (.idx .nil),
   o4 2 [3, 25] (.store 3 [] 5 (.t 26) (.t 25))])
 (.seq (.rg [o1 27 (.idx .nil),
   o1 28 (.load 1 [] 14 (.t 27) 1 false),
   o3 29 176 [.t 28],
   o1 30 (.idx .nil),
   o4 2 [3, 29] (.store 3 [] 14 (.t 30) (.t 29))])
 (.seq (.rg [o1 31 (.load 3 [] 0 .nil 15 true),
   ⟨false, [31], [], .det 2 (.store 2 [] 0 .nil (.t 31)), [2, 31, 31, 3], none, none⟩])
 .ret))))))))))
def s_ltoHead : Sig := ⟨[.rd true [.d, .sl (.own none) [.d], .sl (.own none) [.d, .d], .sl (.own none) [.sl (.own none) [.d]], .sl (.own none) [.d], .d, .d, .d, .d, .d, .d, .d, .sl (.own none) [.d, .d], .d, .sl (.own none) [.d, .d, .d, .d, .d, .d]]], (.one true [.d, .sl (.own none) [.d], .sl (.own none) [.d, .d], .sl (.own none) [.sl (.own none) [.d]], .sl (.own none) [.d], .d, .d, .d, .d, .d, .d, .d, .sl (.own none) [.d, .d], .d, .sl (.own none) [.d, .d, .d, .d, .d, .d]])⟩
noncomputable def E_ltoHead : TEnv := envOf [(172, p_ltoIntS), (173, p_ltoEdgeS), (174, p_ltoIntSS), (175, p_ltoTask), (176, p_ltoSaidS)]
noncomputable def f_ltoHead (n : Nat) : (Int × List (Int) × List (Int × Int) × List (List (Int)) × List (Int) × Int × Int × Int × Int × Int × Int × Int × List (Int × Int) × Int × List (Int × Int × Int × Int × Int × Int)) → Option ((Int × List (Int) × List (Int × Int) × List (List (Int)) × List (Int) × Int × Int × Int × Int × Int × Int × Int × List (Int × Int) × Int × List (Int × Int × Int × Int × Int × Int)) × Unit) := runFn n E_ltoHead c_ltoHead [[.i .i64, .sl [.i .i64], .sl [.i .i64, .i .i64], .sl [.sl [.i .i64]], .sl [.i .i64], .i .i64, .i .i64, .i .i64, .i .i64, .i .i64, .i .i64, .i .i64, .sl [.i .i64, .i .i64], .i .i64, .sl [.i .i64, .i .i64, .i .i64, .i .i64, .i .i64, .i .i64]]] [.i .i64, .sl [.i .i64], .sl [.i .i64, .i .i64], .sl [.sl [.i .i64]], .sl [.i .i64], .i .i64, .i .i64, .i .i64, .i .i64, .i .i64, .i .i64, .i .i64, .sl [.i .i64, .i .i64], .i .i64, .sl [.i .i64, .i .i64, .i .i64, .i .i64, .i .i64, .i .i64]] [] [2] .no
noncomputable def g_ltoHead := f_ltoHead BIG
noncomputable def p_ltoHead : TSp := ⟨s_ltoHead, [[.i .i64, .sl [.i .i64], .sl [.i .i64, .i .i64], .sl [.sl [.i .i64]], .sl [.i .i64], .i .i64, .i .i64, .i .i64, .i .i64, .i .i64, .i .i64, .i .i64, .sl [.i .i64, .i .i64], .i .i64, .sl [.i .i64, .i .i64, .i .i64, .i .i64, .i .i64, .i .i64]]], [.i .i64, .sl [.i .i64], .sl [.i .i64, .i .i64], .sl [.sl [.i .i64]], .sl [.i .i64], .i .i64, .i .i64, .i .i64, .i .i64, .i .i64, .i .i64, .i .i64, .sl [.i .i64, .i .i64], .i .i64, .sl [.i .i64, .i .i64, .i .i64, .i .i64, .i .i64, .i .i64]], [], Ou.j .no, g_ltoHead⟩
theorem k_ltoHead : chkW PG E_ltoHead 71 s_ltoHead (c_ltoHead.ht 32) .no = some (c_ltoHead.wc E_ltoHead, [2]) := by kernel_rfl
theorem ok_ltoHead : p_ltoHead.Ok PG 71 := mkOk (env_cons ok_ltoIntS (env_cons ok_ltoEdgeS (env_cons ok_ltoIntSS (env_cons ok_ltoTask (env_cons ok_ltoSaidS (env_nil PG)))))) k_ltoHead (by kernel_rfl)
theorem e_ltoHead (n : Nat) (a0 : Int × List (Int) × List (Int × Int) × List ((List (Int))) × List (Int) × Int × Int × Int × Int × Int × Int × Int × List (Int × Int) × Int × List (Int × Int × Int × Int × Int × Int)) : f_ltoHead n a0 =
  Option.bind (g_ltoIntS a0.2.1) fun r0 =>
  Option.bind (g_ltoEdgeS a0.2.2.1) fun r1 =>
  Option.bind (g_ltoIntSS a0.2.2.2.1) fun r2 =>
  Option.bind (g_ltoIntS a0.2.2.2.2.1) fun r3 =>
  Option.bind (g_ltoTask (a0.2.2.2.2.2.1, a0.2.2.2.2.2.2.1, a0.2.2.2.2.2.2.2.1, a0.2.2.2.2.2.2.2.2.1, a0.2.2.2.2.2.2.2.2.2.1, a0.2.2.2.2.2.2.2.2.2.2.1, a0.2.2.2.2.2.2.2.2.2.2.2.1, a0.2.2.2.2.2.2.2.2.2.2.2.2.1, a0.2.2.2.2.2.2.2.2.2.2.2.2.2.1)) fun r4 =>
  Option.bind (g_ltoSaidS a0.2.2.2.2.2.2.2.2.2.2.2.2.2.2) fun r5 =>
  some ((a0.1, r0.1, r1.1, r2.1, r3.1, r4.1.1, r4.1.2.1, r4.1.2.2.1, r4.1.2.2.2.1, r4.1.2.2.2.2.1, r4.1.2.2.2.2.2.1, r4.1.2.2.2.2.2.2.1, r4.1.2.2.2.2.2.2.2.1, r4.1.2.2.2.2.2.2.2.2, r5.1), ()) := by kernel_rfl
/- laws.toLedge -/
def c_ltoLedge : TC :=
 (.seq (.rg [o1 1 (.a (.t 0)),
   ⟨false, [], [], .det 2 (.a (.c [.i .i64, .i .i64, .i .i64, .b] [.int .i64 (0), .int .i64 (0), .int .i64 (0), .bool false])), [2, 1000000001], (some 2), none⟩])
 (.seq (.rg [⟨false, [], [], .det 2 (.a (.c [.i .i64, .i .i64, .i .i64, .b] [.int .i64 (0), .int .i64 (0), .int .i64 (0), .bool false])), [3, 1000000001], (some 3), none⟩])
 (.seq (.rg [o1 4 (.idx .nil),
   o1 5 (.load 1 [] 0 (.t 4) 1 false),
   o1 6 (.idx .nil),
   o4 1 [3] (.store 3 [] 0 (.t 6) (.t 5))])
 (.seq (.rg [o1 7 (.idx .nil),
   o1 8 (.load 1 [] 1 (.t 7) 1 false),
   o1 9 (.idx .nil),
   o4 1 [3] (.store 3 [] 1 (.t 9) (.t 8))])
 (.seq (.rg [o1 10 (.idx .nil),
   o1 11 (.load 1 [] 2 (.t 10) 1 false),
   o1 12 (.idx .nil),
   o4 1 [3] (.store 3 [] 2 (.t 12) (.t 11))])
 (.seq (.rg [o1 13 (.idx .nil),
   o1 14 (.load 1 [] 3 (.t 13) 1 false),
   o1 15 (.idx .nil),
   o4 1 [3] (.store 3 [] 3 (.t 15) (.t 14))])
 (.seq (.rg [o1 16 (.load 3 [] 0 .nil 4 false),
   o4 1 [2] (.store 2 [] 0 .nil (.t 16))])
 .ret)))))))
def s_ltoLedge : Sig := ⟨[.rd true [.d, .d, .d, .d]], (.one true [.d, .d, .d, .d])⟩
noncomputable def E_ltoLedge : TEnv := envOf []
noncomputable def f_ltoLedge (n : Nat) : (Int × Int × Int × Bool) → Option ((Int × Int × Int × Bool) × Unit) := runFn n E_ltoLedge c_ltoLedge [[.i .i64, .i .i64, .i .i64, .b]] [.i .i64, .i .i64, .i .i64, .b] [] [2] .no
noncomputable def g_ltoLedge := f_ltoLedge BIG
noncomputable def p_ltoLedge : TSp := ⟨s_ltoLedge, [[.i .i64, .i .i64, .i .i64, .b]], [.i .i64, .i .i64, .i .i64, .b], [], Ou.j .no, g_ltoLedge⟩
theorem k_ltoLedge : chkW PG E_ltoLedge 311 s_ltoLedge (c_ltoLedge.ht 17) .no = some (c_ltoLedge.wc E_ltoLedge, [2]) := by kernel_rfl
theorem ok_ltoLedge : p_ltoLedge.Ok PG 311 := mkOk (env_nil PG) k_ltoLedge (by kernel_rfl)
theorem e_ltoLedge (n : Nat) (a0 : Int × Int × Int × Bool) : f_ltoLedge n a0 =
  some (a0, ()) := by kernel_rfl
/- laws.toLedgeS -/
def c_ltoLedgeS : TC :=
 (.seq (.rg [o1 2 (.lit [.sl [.i .i64, .i .i64, .i .i64, .b]] [.slice none 0 0])])
 (.seq (.rg [o1 5 (.copy 0),
   o1 6 (.len 5),
   o1 7 (.make (.t 6) [.i .i64, .i .i64, .i .i64, .b]),
   ⟨false, [], [], .det 2 (.copy 7), [3, 7], (some 3), none⟩])
 (.seq (.join [⟨3, [.sl [.i .i64, .i .i64, .i .i64, .b]], false⟩] 4194072 none (.seq (.rg [o1 4 (.lit [.i .i64] [.int .i64 (0)])])
 (.block 0 (.loop [⟨3, [.sl [.i .i64, .i .i64, .i .i64, .b]], false⟩, ⟨4, [.i .i64], false⟩] 4194072
  (.seq (.seq (.rg [o1 8 (.copy 4),
    o1 9 (.copy 0),
    o1 10 (.len 9),
    o1 11 (.data (.bin .lss) [.t 8, .t 10])])
  (.cond (.t 11)
   .skip
   (.exit 0)))
  (.seq (.block 1 (.rg [⟨true, [], [], .det 1 (.copy 3), [14], (some 14), none⟩,
    o1 15 (.copy 4),
    o1 16 (.copy 0),
    o1 17 (.copy 4),
    o1 18 (.index 16 (.t 17)),
    o1 19 (.load 16 [(0, 4)] 0 (.t 18) 4 false),
    o3 20 311 [.t 19],
    o1 21 (.index 14 (.t 15)),
    o4 1 [3, 14] (.store 3 [(0, 4)] 0 (.t 21) (.t 20))]))
  (.rg [o1 12 (.copy 4),
    o1 13 (.data (.bin .add) [.t 12, .c (.int .i64 (1))]),
    o1 4 (.copy 13)])))))))
 (.seq (.rg [⟨false, [], [], .det 2 (.copy 3), [22, 3], (some 22), none⟩,
   ⟨false, [], [], .det 2 (.copy 22), [2, 22], (some 2), none⟩])
 .ret))))
def s_ltoLedgeS : Sig := ⟨[.rd false [.sl (.own none) [.d, .d, .d, .d]]], (.one false [.sl (.own none) [.d, .d, .d, .d]])⟩
noncomputable def E_ltoLedgeS : TEnv := envOf [(311, p_ltoLedge)]
noncomputable def f_ltoLedgeS (n : Nat) : (List (Int × Int × Int × Bool)) → Option ((List (Int × Int × Int × Bool)) × Unit) := runFn n E_ltoLedgeS c_ltoLedgeS [[.sl [.i .i64, .i .i64, .i .i64, .b]]] [.sl [.i .i64, .i .i64, .i .i64, .b]] [] [2] .no
noncomputable def g_ltoLedgeS := f_ltoLedgeS BIG
noncomputable def p_ltoLedgeS : TSp := ⟨s_ltoLedgeS, [[.sl [.i .i64, .i .i64, .i .i64, .b]]], [.sl [.i .i64, .i .i64, .i .i64, .b]], [], Ou.j .no, g_ltoLedgeS⟩
theorem k_ltoLedgeS : chkW PG E_ltoLedgeS 249 s_ltoLedgeS (c_ltoLedgeS.ht 23) .no = some (c_ltoLedgeS.wc E_ltoLedgeS, [2]) := by kernel_rfl
theorem ok_ltoLedgeS : p_ltoLedgeS.Ok PG 249 := mkOk (env_cons ok_ltoLedge (env_nil PG)) k_ltoLedgeS (by kernel_rfl)
theorem e_ltoLedgeS (n : Nat) (a0 : List (Int × Int × Int × Bool)) : f_ltoLedgeS n a0 =
  bif decide (0 ≤ (a0.length : Int)) then
   bif decide ((Int.toNat (a0.length : Int)) ≤ 4294967296) then
    Option.bind (loopT n (X := (List (Int × Int × Int × Bool)) × Int) (B := (List (Int × Int × Int × Bool))) (fun self1 x0 =>
      bif decide (x0.2 < (a0.length : Int)) then
       bnd a0.length x0.2 fun n2 =>
       Option.bind a0[n2]? fun y3 =>
       Option.bind (g_ltoLedge y3) fun r4 =>
       bnd x0.1.length x0.2 fun n5 =>
       Option.bind x0.1[n5]? fun y6 =>
       self1 (x0.1.set n5 r4.1, IntKind.wrap .i64 (x0.2 + (1 : Int)))
      else some x0.1) (List.replicate (Int.toNat (a0.length : Int)) ((0 : Int), (0 : Int), (0 : Int), false), (0 : Int)) : Option ((List (Int × Int × Int × Bool)))) fun x7 =>
    some (x7, ())
   else none
  else none := by kernel_rfl
/- laws.toWeb -/
def c_ltoWeb : TC :=
 (.seq (.rg [o1 1 (.a (.t 0)),
   ⟨false, [], [], .det 2 (.a (.c [.i .i64, .sl [.i .i64, .i .i64, .i .i64, .b]] [.int .i64 (0), .slice none 0 0])), [2, 1000000001], (some 2), none⟩])
 (.seq (.rg [⟨false, [], [], .det 2 (.a (.c [.i .i64, .sl [.i .i64, .i .i64, .i .i64, .b]] [.int .i64 (0), .slice none 0 0])), [3, 1000000001], (some 3), none⟩])
 (.seq (.rg [o1 4 (.idx .nil),
   o1 5 (.load 1 [] 0 (.t 4) 1 false),
   o1 6 (.idx .nil),
   o4 1 [3] (.store 3 [] 0 (.t 6) (.t 5))])
 (.seq (.rg [o1 7 (.idx .nil),
   o1 8 (.load 1 [] 1 (.t 7) 1 false),
   o3 9 249 [.t 8],
   o1 10 (.idx .nil),
   o4 2 [3, 9] (.store 3 [] 1 (.t 10) (.t 9))])
 (.seq (.rg [o1 11 (.load 3 [] 0 .nil 2 true),
   ⟨false, [11], [], .det 2 (.store 2 [] 0 .nil (.t 11)), [2, 11, 11, 3], none, none⟩])
 .ret)))))
def s_ltoWeb : Sig := ⟨[.rd true [.d, .sl (.own none) [.d, .d, .d, .d]]], (.one true [.d, .sl (.own none) [.d, .d, .d, .d]])⟩
noncomputable def E_ltoWeb : TEnv := envOf [(249, p_ltoLedgeS)]
noncomputable def f_ltoWeb (n : Nat) : (Int × List (Int × Int × Int × Bool)) → Option ((Int × List (Int × Int × Int × Bool)) × Unit) := runFn n E_ltoWeb c_ltoWeb [[.i .i64, .sl [.i .i64, .i .i64, .i .i64, .b]]] [.i .i64, .sl [.i .i64, .i .i64, .i .i64, .b]] [] [2] .no
noncomputable def g_ltoWeb := f_ltoWeb BIG
noncomputable def p_ltoWeb : TSp := ⟨s_ltoWeb, [[.i .i64, .sl [.i .i64, .i .i64, .i .i64, .b]]], [.i .i64, .sl [.i .i64, .i .i64, .i .i64, .b]], [], Ou.j .no, g_ltoWeb⟩
theorem k_ltoWeb : chkW PG E_ltoWeb 133 s_ltoWeb (c_ltoWeb.ht 12) .no = some (c_ltoWeb.wc E_ltoWeb, [2]) := by kernel_rfl
theorem ok_ltoWeb : p_ltoWeb.Ok PG 133 := mkOk (env_cons ok_ltoLedgeS (env_nil PG)) k_ltoWeb (by kernel_rfl)
theorem e_ltoWeb (n : Nat) (a0 : Int × List (Int × Int × Int × Bool)) : f_ltoWeb n a0 =
  Option.bind (g_ltoLedgeS a0.2) fun r0 =>
  some ((a0.1, r0.1), ()) := by kernel_rfl
/- laws.toAnswer -/
def c_ltoAnswer : TC :=
 (.seq (.rg [o1 1 (.a (.t 0)),
   ⟨false, [], [], .det 2 (.a (.c [.i .i64, .b, .sl [.i .i64, .i .i64], .sl [.i .i64]] [.int .i64 (0), .bool false, .slice none 0 0, .slice none 0 0])), [2, 1000000001], (some 2), none⟩])
 (.seq (.rg [⟨false, [], [], .det 2 (.a (.c [.i .i64, .b, .sl [.i .i64, .i .i64], .sl [.i .i64]] [.int .i64 (0), .bool false, .slice none 0 0, .slice none 0 0])), [3, 1000000001], (some 3), none⟩])
 (.seq (.rg [o1 4 (.idx .nil),
   o1 5 (.load 1 [] 0 (.t 4) 1 false),
   o1 6 (.idx .nil),
   o4 1 [3] (.store 3 [] 0 (.t 6) (.t 5))])
 (.seq (.rg [o1 7 (.idx .nil),
   o1 8 (.load 1 [] 1 (.t 7) 1 false),
   o1 9 (.idx .nil),
   o4 1 [3] (.store 3 [] 1 (.t 9) (.t 8))])
 (.seq (.rg [o1 10 (.idx .nil),
   o1 11 (.load 1 [] 2 (.t 10) 1 false),
   o3 12 173 [.t 11],
   o1 13 (.idx .nil),
   o4 2 [3, 12] (.store 3 [] 2 (.t 13) (.t 12))])
 (.seq (.rg [o1 14 (.idx .nil),
   o1 15 (.load 1 [] 3 (.t 14) 1 false),
   o3 16 172 [.t 15],
   o1 17 (.idx .nil),
   o4 2 [3, 16] (.store 3 [] 3 (.t 17) (.t 16))])
 (.seq (.rg [o1 18 (.load 3 [] 0 .nil 4 true),
   ⟨false, [18], [], .det 2 (.store 2 [] 0 .nil (.t 18)), [2, 18, 18, 3], none, none⟩])
 .ret)))))))
def s_ltoAnswer : Sig := ⟨[.rd true [.d, .d, .sl (.own none) [.d, .d], .sl (.own none) [.d]]], (.one true [.d, .d, .sl (.own none) [.d, .d], .sl (.own none) [.d]])⟩
noncomputable def E_ltoAnswer : TEnv := envOf [(173, p_ltoEdgeS), (172, p_ltoIntS)]
noncomputable def f_ltoAnswer (n : Nat) : (Int × Bool × List (Int × Int) × List (Int)) → Option ((Int × Bool × List (Int × Int) × List (Int)) × Unit) := runFn n E_ltoAnswer c_ltoAnswer [[.i .i64, .b, .sl [.i .i64, .i .i64], .sl [.i .i64]]] [.i .i64, .b, .sl [.i .i64, .i .i64], .sl [.i .i64]] [] [2] .no
noncomputable def g_ltoAnswer := f_ltoAnswer BIG
noncomputable def p_ltoAnswer : TSp := ⟨s_ltoAnswer, [[.i .i64, .b, .sl [.i .i64, .i .i64], .sl [.i .i64]]], [.i .i64, .b, .sl [.i .i64, .i .i64], .sl [.i .i64]], [], Ou.j .no, g_ltoAnswer⟩
theorem k_ltoAnswer : chkW PG E_ltoAnswer 72 s_ltoAnswer (c_ltoAnswer.ht 19) .no = some (c_ltoAnswer.wc E_ltoAnswer, [2]) := by kernel_rfl
theorem ok_ltoAnswer : p_ltoAnswer.Ok PG 72 := mkOk (env_cons ok_ltoEdgeS (env_cons ok_ltoIntS (env_nil PG))) k_ltoAnswer (by kernel_rfl)
theorem e_ltoAnswer (n : Nat) (a0 : Int × Bool × List (Int × Int) × List (Int)) : f_ltoAnswer n a0 =
  Option.bind (g_ltoEdgeS a0.2.2.1) fun r0 =>
  Option.bind (g_ltoIntS a0.2.2.2) fun r1 =>
  some ((a0.1, a0.2.1, r0.1, r1.1), ()) := by kernel_rfl
/- laws.toShard -/
def c_ltoShard : TC :=
 (.seq (.rg [o1 1 (.a (.t 0)),
   ⟨false, [], [], .det 2 (.a (.c [.i .i64, .i .i64, .sl [.i .i64, .i .i64, .i .i64, .b], .i .i64, .b, .sl [.i .i64, .i .i64], .sl [.i .i64]] [.int .i64 (0), .int .i64 (0), .slice none 0 0, .int .i64 (0), .bool false, .slice none 0 0, .slice none 0 0])), [2, 1000000001], (some 2), none⟩])
 (.seq (.rg [⟨false, [], [], .det 2 (.a (.c [.i .i64, .i .i64, .sl [.i .i64, .i .i64, .i .i64, .b], .i .i64, .b, .sl [.i .i64, .i .i64], .sl [.i .i64]] [.int .i64 (0), .int .i64 (0), .slice none 0 0, .int .i64 (0), .bool false, .slice none 0 0, .slice none 0 0])), [3, 1000000001], (some 3), none⟩])
 (.seq (.rg [o1 4 (.idx .nil),
   o1 5 (.load 1 [] 0 (.t 4) 1 false),
   o1 6 (.idx .nil),
   o4 1 [3] (.store 3 [] 0 (.t 6) (.t 5))])
 (.seq (.rg [o1 7 (.idx .nil),
   o1 8 (.load 1 [] 1 (.t 7) 2 false),
   o3 9 133 [.t 8],
   o1 10 (.idx .nil),
   o4 2 [3, 9] (.store 3 [] 1 (.t 10) (.t 9))])
 (.seq (.rg [o1 11 (.idx .nil),
   o1 12 (.load 1 [] 3 (.t 11) 4 false),
   o3 13 72 [.t 12],
   o1 14 (.idx .nil),
   o4 2 [3, 13] (.store 3 [] 3 (.t 14) (.t 13))])
 (.seq (.rg [o1 15 (.load 3 [] 0 .nil 7 true),
   ⟨false, [15], [], .det 2 (.store 2 [] 0 .nil (.t 15)), [2, 15, 15, 3], none, none⟩])
 .ret))))))
def s_ltoShard : Sig := ⟨[.rd true [.d, .d, .sl (.own none) [.d, .d, .d, .d], .d, .d, .sl (.own none) [.d, .d], .sl (.own none) [.d]]], (.one true [.d, .d, .sl (.own none) [.d, .d, .d, .d], .d, .d, .sl (.own none) [.d, .d], .sl (.own none) [.d]])⟩
noncomputable def E_ltoShard : TEnv := envOf [(133, p_ltoWeb), (72, p_ltoAnswer)]
noncomputable def f_ltoShard (n : Nat) : (Int × Int × List (Int × Int × Int × Bool) × Int × Bool × List (Int × Int) × List (Int)) → Option ((Int × Int × List (Int × Int × Int × Bool) × Int × Bool × List (Int × Int) × List (Int)) × Unit) := runFn n E_ltoShard c_ltoShard [[.i .i64, .i .i64, .sl [.i .i64, .i .i64, .i .i64, .b], .i .i64, .b, .sl [.i .i64, .i .i64], .sl [.i .i64]]] [.i .i64, .i .i64, .sl [.i .i64, .i .i64, .i .i64, .b], .i .i64, .b, .sl [.i .i64, .i .i64], .sl [.i .i64]] [] [2] .no
noncomputable def g_ltoShard := f_ltoShard BIG
noncomputable def p_ltoShard : TSp := ⟨s_ltoShard, [[.i .i64, .i .i64, .sl [.i .i64, .i .i64, .i .i64, .b], .i .i64, .b, .sl [.i .i64, .i .i64], .sl [.i .i64]]], [.i .i64, .i .i64, .sl [.i .i64, .i .i64, .i .i64, .b], .i .i64, .b, .sl [.i .i64, .i .i64], .sl [.i .i64]], [], Ou.j .no, g_ltoShard⟩
theorem k_ltoShard : chkW PG E_ltoShard 51 s_ltoShard (c_ltoShard.ht 16) .no = some (c_ltoShard.wc E_ltoShard, [2]) := by kernel_rfl
theorem ok_ltoShard : p_ltoShard.Ok PG 51 := mkOk (env_cons ok_ltoWeb (env_cons ok_ltoAnswer (env_nil PG))) k_ltoShard (by kernel_rfl)
theorem e_ltoShard (n : Nat) (a0 : Int × Int × List (Int × Int × Int × Bool) × Int × Bool × List (Int × Int) × List (Int)) : f_ltoShard n a0 =
  Option.bind (g_ltoWeb (a0.2.1, a0.2.2.1)) fun r0 =>
  Option.bind (g_ltoAnswer a0.2.2.2) fun r1 =>
  some ((a0.1, r0.1.1, r0.1.2, r1.1), ()) := by kernel_rfl
/- laws.toShardS -/
def c_ltoShardS : TC :=
 (.seq (.rg [o1 2 (.lit [.sl [.i .i64, .i .i64, .sl [.i .i64, .i .i64, .i .i64, .b], .i .i64, .b, .sl [.i .i64, .i .i64], .sl [.i .i64]]] [.slice none 0 0])])
 (.seq (.rg [o1 5 (.copy 0),
   o1 6 (.len 5),
   o1 7 (.make (.t 6) [.i .i64, .i .i64, .sl [.i .i64, .i .i64, .i .i64, .b], .i .i64, .b, .sl [.i .i64, .i .i64], .sl [.i .i64]]),
   ⟨false, [], [], .det 2 (.copy 7), [3, 7], (some 3), none⟩])
 (.seq (.join [⟨3, [.sl [.i .i64, .i .i64, .sl [.i .i64, .i .i64, .i .i64, .b], .i .i64, .b, .sl [.i .i64, .i .i64], .sl [.i .i64]]], false⟩] 4194072 none (.seq (.rg [o1 4 (.lit [.i .i64] [.int .i64 (0)])])
 (.block 0 (.loop [⟨3, [.sl [.i .i64, .i .i64, .sl [.i .i64, .i .i64, .i .i64, .b], .i .i64, .b, .sl [.i .i64, .i .i64], .sl [.i .i64]]], false⟩, ⟨4, [.i .i64], false⟩] 4194072
  (.seq (.seq (.rg [o1 8 (.copy 4),
    o1 9 (.copy 0),
    o1 10 (.len 9),
    o1 11 (.data (.bin .lss) [.t 8, .t 10])])
  (.cond (.t 11)
   .skip
   (.exit 0)))
  (.seq (.block 1 (.rg [⟨true, [], [], .det 1 (.copy 3), [14], (some 14), none⟩,
    o1 15 (.copy 4),
    o1 16 (.copy 0),
    o1 17 (.copy 4),
    o1 18 (.index 16 (.t 17)),
    o1 19 (.load 16 [(0, 7)] 0 (.t 18) 7 false),
    o3 20 51 [.t 19],
    o1 21 (.index 14 (.t 15)),
    o4 2 [3, 20, 21, 14] (.store 3 [(0, 7)] 0 (.t 21) (.t 20))]))
  (.rg [o1 12 (.copy 4),
    o1 13 (.data (.bin .add) [.t 12, .c (.int .i64 (1))]),
    o1 4 (.copy 13)])))))))
 (.seq (.rg [⟨false, [], [], .det 2 (.copy 3), [22, 3], (some 22), none⟩,
   ⟨false, [], [], .det 2 (.copy 22), [2, 22], (some 2), none⟩])
 .ret))))
def s_ltoShardS : Sig := ⟨[.rd false [.sl (.own none) [.d, .d, .sl (.own none) [.d, .d, .d, .d], .d, .d, .sl (.own none) [.d, .d], .sl (.own none) [.d]]]], (.one false [.sl (.own none) [.d, .d, .sl (.own none) [.d, .d, .d, .d], .d, .d, .sl (.own none) [.d, .d], .sl (.own none) [.d]]])⟩
noncomputable def E_ltoShardS : TEnv := envOf [(51, p_ltoShard)]
noncomputable def f_ltoShardS (n : Nat) : (List (Int × Int × List (Int × Int × Int × Bool) × Int × Bool × List (Int × Int) × List (Int))) → Option ((List (Int × Int × List (Int × Int × Int × Bool) × Int × Bool × List (Int × Int) × List (Int))) × Unit) := runFn n E_ltoShardS c_ltoShardS [[.sl [.i .i64, .i .i64, .sl [.i .i64, .i .i64, .i .i64, .b], .i .i64, .b, .sl [.i .i64, .i .i64], .sl [.i .i64]]]] [.sl [.i .i64, .i .i64, .sl [.i .i64, .i .i64, .i .i64, .b], .i .i64, .b, .sl [.i .i64, .i .i64], .sl [.i .i64]]] [] [2] .no
noncomputable def g_ltoShardS := f_ltoShardS BIG
noncomputable def p_ltoShardS : TSp := ⟨s_ltoShardS, [[.sl [.i .i64, .i .i64, .sl [.i .i64, .i .i64, .i .i64, .b], .i .i64, .b, .sl [.i .i64, .i .i64], .sl [.i .i64]]]], [.sl [.i .i64, .i .i64, .sl [.i .i64, .i .i64, .i .i64, .b], .i .i64, .b, .sl [.i .i64, .i .i64], .sl [.i .i64]]], [], Ou.j .no, g_ltoShardS⟩
theorem k_ltoShardS : chkW PG E_ltoShardS 204 s_ltoShardS (c_ltoShardS.ht 23) .no = some (c_ltoShardS.wc E_ltoShardS, [2]) := by kernel_rfl
theorem ok_ltoShardS : p_ltoShardS.Ok PG 204 := mkOk (env_cons ok_ltoShard (env_nil PG)) k_ltoShardS (by kernel_rfl)
theorem e_ltoShardS (n : Nat) (a0 : List (Int × Int × (List (Int × Int × Int × Bool)) × Int × Bool × (List (Int × Int)) × (List (Int)))) : f_ltoShardS n a0 =
  bif decide (0 ≤ (a0.length : Int)) then
   bif decide ((Int.toNat (a0.length : Int)) ≤ 4294967296) then
    Option.bind (loopT n (X := (List (Int × Int × (List (Int × Int × Int × Bool)) × Int × Bool × (List (Int × Int)) × (List (Int)))) × Int) (B := (List (Int × Int × (List (Int × Int × Int × Bool)) × Int × Bool × (List (Int × Int)) × (List (Int))))) (fun self1 x0 =>
      bif decide (x0.2 < (a0.length : Int)) then
       bnd a0.length x0.2 fun n2 =>
       Option.bind a0[n2]? fun y3 =>
       Option.bind (g_ltoShard y3) fun r4 =>
       bnd x0.1.length x0.2 fun n5 =>
       Option.bind x0.1[n5]? fun y6 =>
       self1 (x0.1.set n5 r4.1, IntKind.wrap .i64 (x0.2 + (1 : Int)))
      else some x0.1) (List.replicate (Int.toNat (a0.length : Int)) ((0 : Int), (0 : Int), [], (0 : Int), false, [], []), (0 : Int)) : Option ((List (Int × Int × (List (Int × Int × Int × Bool)) × Int × Bool × (List (Int × Int)) × (List (Int)))))) fun x7 =>
    some (x7, ())
   else none
  else none := by kernel_rfl
/- laws.toFile -/
def c_ltoFile : TC :=
 (.seq (.rg [o1 1 (.a (.t 0)),
   ⟨false, [], [], .det 2 (.a (.c [.s, .s, .i .i64] [.string ⟨#[]⟩, .string ⟨#[]⟩, .int .i64 (0)])), [2, 1000000001], (some 2), none⟩])
 (.seq (.rg [⟨false, [], [], .det 2 (.a (.c [.s, .s, .i .i64] [.string ⟨#[]⟩, .string ⟨#[]⟩, .int .i64 (0)])), [3, 1000000001], (some 3), none⟩])
 (.seq (.rg [o1 4 (.idx .nil),
   o1 5 (.load 1 [] 0 (.t 4) 1 false),
   o1 6 (.idx .nil),
   o4 1 [3] (.store 3 [] 0 (.t 6) (.t 5))])
 (.seq (.rg [o1 7 (.idx .nil),
   o1 8 (.load 1 [] 1 (.t 7) 1 false),
   o1 9 (.idx .nil),
   o4 1 [3] (.store 3 [] 1 (.t 9) (.t 8))])
 (.seq (.rg [o1 10 (.idx .nil),
   o1 11 (.load 1 [] 2 (.t 10) 1 false),
   o1 12 (.idx .nil),
   o4 1 [3] (.store 3 [] 2 (.t 12) (.t 11))])
 (.seq (.rg [o1 13 (.load 3 [] 0 .nil 3 false),
   o4 1 [2] (.store 2 [] 0 .nil (.t 13))])
 .ret))))))
def s_ltoFile : Sig := ⟨[.rd true [.d, .d, .d]], (.one true [.d, .d, .d])⟩
noncomputable def E_ltoFile : TEnv := envOf []
noncomputable def f_ltoFile (n : Nat) : (ByteArray × ByteArray × Int) → Option ((ByteArray × ByteArray × Int) × Unit) := runFn n E_ltoFile c_ltoFile [[.s, .s, .i .i64]] [.s, .s, .i .i64] [] [2] .no
noncomputable def g_ltoFile := f_ltoFile BIG
noncomputable def p_ltoFile : TSp := ⟨s_ltoFile, [[.s, .s, .i .i64]], [.s, .s, .i .i64], [], Ou.j .no, g_ltoFile⟩
theorem k_ltoFile : chkW PG E_ltoFile 278 s_ltoFile (c_ltoFile.ht 14) .no = some (c_ltoFile.wc E_ltoFile, [2]) := by kernel_rfl
theorem ok_ltoFile : p_ltoFile.Ok PG 278 := mkOk (env_nil PG) k_ltoFile (by kernel_rfl)
theorem e_ltoFile (n : Nat) (a0 : ByteArray × ByteArray × Int) : f_ltoFile n a0 =
  some (a0, ()) := by kernel_rfl
/- laws.toFileS -/
def c_ltoFileS : TC :=
 (.seq (.rg [o1 2 (.lit [.sl [.s, .s, .i .i64]] [.slice none 0 0])])
 (.seq (.rg [o1 5 (.copy 0),
   o1 6 (.len 5),
   o1 7 (.make (.t 6) [.s, .s, .i .i64]),
   ⟨false, [], [], .det 2 (.copy 7), [3, 7], (some 3), none⟩])
 (.seq (.join [⟨3, [.sl [.s, .s, .i .i64]], false⟩] 4194072 none (.seq (.rg [o1 4 (.lit [.i .i64] [.int .i64 (0)])])
 (.block 0 (.loop [⟨3, [.sl [.s, .s, .i .i64]], false⟩, ⟨4, [.i .i64], false⟩] 4194072
  (.seq (.seq (.rg [o1 8 (.copy 4),
    o1 9 (.copy 0),
    o1 10 (.len 9),
    o1 11 (.data (.bin .lss) [.t 8, .t 10])])
  (.cond (.t 11)
   .skip
   (.exit 0)))
  (.seq (.block 1 (.rg [⟨true, [], [], .det 1 (.copy 3), [14], (some 14), none⟩,
    o1 15 (.copy 4),
    o1 16 (.copy 0),
    o1 17 (.copy 4),
    o1 18 (.index 16 (.t 17)),
    o1 19 (.load 16 [(0, 3)] 0 (.t 18) 3 false),
    o3 20 278 [.t 19],
    o1 21 (.index 14 (.t 15)),
    o4 1 [3, 14] (.store 3 [(0, 3)] 0 (.t 21) (.t 20))]))
  (.rg [o1 12 (.copy 4),
    o1 13 (.data (.bin .add) [.t 12, .c (.int .i64 (1))]),
    o1 4 (.copy 13)])))))))
 (.seq (.rg [⟨false, [], [], .det 2 (.copy 3), [22, 3], (some 22), none⟩,
   ⟨false, [], [], .det 2 (.copy 22), [2, 22], (some 2), none⟩])
 .ret))))
def s_ltoFileS : Sig := ⟨[.rd false [.sl (.own none) [.d, .d, .d]]], (.one false [.sl (.own none) [.d, .d, .d]])⟩
noncomputable def E_ltoFileS : TEnv := envOf [(278, p_ltoFile)]
noncomputable def f_ltoFileS (n : Nat) : (List (ByteArray × ByteArray × Int)) → Option ((List (ByteArray × ByteArray × Int)) × Unit) := runFn n E_ltoFileS c_ltoFileS [[.sl [.s, .s, .i .i64]]] [.sl [.s, .s, .i .i64]] [] [2] .no
noncomputable def g_ltoFileS := f_ltoFileS BIG
noncomputable def p_ltoFileS : TSp := ⟨s_ltoFileS, [[.sl [.s, .s, .i .i64]]], [.sl [.s, .s, .i .i64]], [], Ou.j .no, g_ltoFileS⟩
theorem k_ltoFileS : chkW PG E_ltoFileS 154 s_ltoFileS (c_ltoFileS.ht 23) .no = some (c_ltoFileS.wc E_ltoFileS, [2]) := by kernel_rfl
theorem ok_ltoFileS : p_ltoFileS.Ok PG 154 := mkOk (env_cons ok_ltoFile (env_nil PG)) k_ltoFileS (by kernel_rfl)
theorem e_ltoFileS (n : Nat) (a0 : List (ByteArray × ByteArray × Int)) : f_ltoFileS n a0 =
  bif decide (0 ≤ (a0.length : Int)) then
   bif decide ((Int.toNat (a0.length : Int)) ≤ 4294967296) then
    Option.bind (loopT n (X := (List (ByteArray × ByteArray × Int)) × Int) (B := (List (ByteArray × ByteArray × Int))) (fun self1 x0 =>
      bif decide (x0.2 < (a0.length : Int)) then
       bnd a0.length x0.2 fun n2 =>
       Option.bind a0[n2]? fun y3 =>
       Option.bind (g_ltoFile y3) fun r4 =>
       bnd x0.1.length x0.2 fun n5 =>
       Option.bind x0.1[n5]? fun y6 =>
       self1 (x0.1.set n5 r4.1, IntKind.wrap .i64 (x0.2 + (1 : Int)))
      else some x0.1) (List.replicate (Int.toNat (a0.length : Int)) (ByteArray.empty, ByteArray.empty, (0 : Int)), (0 : Int)) : Option ((List (ByteArray × ByteArray × Int)))) fun x7 =>
    some (x7, ())
   else none
  else none := by kernel_rfl
/- laws.toDisk -/
def c_ltoDisk : TC :=
 (.seq (.rg [o1 1 (.a (.t 0)),
   ⟨false, [], [], .det 2 (.a (.c [.sl [.s, .s, .i .i64]] [.slice none 0 0])), [2, 1000000001], (some 2), none⟩])
 (.seq (.rg [⟨false, [], [], .det 2 (.a (.c [.sl [.s, .s, .i .i64]] [.slice none 0 0])), [3, 1000000001], (some 3), none⟩])
 (.seq (.rg [o1 4 (.idx .nil),
   o1 5 (.load 1 [] 0 (.t 4) 1 false),
   o3 6 154 [.t 5],
   o1 7 (.idx .nil),
   o4 2 [3, 6] (.store 3 [] 0 (.t 7) (.t 6))])
 (.seq (.rg [o1 8 (.load 3 [] 0 .nil 1 true),
   ⟨false, [8], [], .det 2 (.store 2 [] 0 .nil (.t 8)), [2, 8, 8, 3], none, none⟩])
 .ret))))
def s_ltoDisk : Sig := ⟨[.rd true [.sl (.own none) [.d, .d, .d]]], (.one true [.sl (.own none) [.d, .d, .d]])⟩
noncomputable def E_ltoDisk : TEnv := envOf [(154, p_ltoFileS)]
noncomputable def f_ltoDisk (n : Nat) : (List (ByteArray × ByteArray × Int)) → Option ((List (ByteArray × ByteArray × Int)) × Unit) := runFn n E_ltoDisk c_ltoDisk [[.sl [.s, .s, .i .i64]]] [.sl [.s, .s, .i .i64]] [] [2] .no
noncomputable def g_ltoDisk := f_ltoDisk BIG
noncomputable def p_ltoDisk : TSp := ⟨s_ltoDisk, [[.sl [.s, .s, .i .i64]]], [.sl [.s, .s, .i .i64]], [], Ou.j .no, g_ltoDisk⟩
theorem k_ltoDisk : chkW PG E_ltoDisk 61 s_ltoDisk (c_ltoDisk.ht 9) .no = some (c_ltoDisk.wc E_ltoDisk, [2]) := by kernel_rfl
theorem ok_ltoDisk : p_ltoDisk.Ok PG 61 := mkOk (env_cons ok_ltoFileS (env_nil PG)) k_ltoDisk (by kernel_rfl)
theorem e_ltoDisk (n : Nat) (a0 : List (ByteArray × ByteArray × Int)) : f_ltoDisk n a0 =
  Option.bind (g_ltoFileS a0) fun r0 =>
  some (r0.1, ()) := by kernel_rfl
/- laws.toDiskS -/
def c_ltoDiskS : TC :=
 (.seq (.rg [o1 2 (.lit [.sl [.sl [.s, .s, .i .i64]]] [.slice none 0 0])])
 (.seq (.rg [o1 5 (.copy 0),
   o1 6 (.len 5),
   o1 7 (.make (.t 6) [.sl [.s, .s, .i .i64]]),
   ⟨false, [], [], .det 2 (.copy 7), [3, 7], (some 3), none⟩])
 (.seq (.join [⟨3, [.sl [.sl [.s, .s, .i .i64]]], false⟩] 4194072 none (.seq (.rg [o1 4 (.lit [.i .i64] [.int .i64 (0)])])
 (.block 0 (.loop [⟨3, [.sl [.sl [.s, .s, .i .i64]]], false⟩, ⟨4, [.i .i64], false⟩] 4194072
  (.seq (.seq (.rg [o1 8 (.copy 4),
    o1 9 (.copy 0),
    o1 10 (.len 9),
    o1 11 (.data (.bin .lss) [.t 8, .t 10])])
  (.cond (.t 11)
   .skip
   (.exit 0)))
  (.seq (.block 1 (.rg [⟨true, [], [], .det 1 (.copy 3), [14], (some 14), none⟩,
    o1 15 (.copy 4),
    o1 16 (.copy 0),
    o1 17 (.copy 4),
    o1 18 (.index 16 (.t 17)),
    o1 19 (.load 16 [(0, 1)] 0 (.t 18) 1 false),
    o3 20 61 [.t 19],
    o1 21 (.index 14 (.t 15)),
    o4 2 [3, 20, 21, 14] (.store 3 [(0, 1)] 0 (.t 21) (.t 20))]))
  (.rg [o1 12 (.copy 4),
    o1 13 (.data (.bin .add) [.t 12, .c (.int .i64 (1))]),
    o1 4 (.copy 13)])))))))
 (.seq (.rg [⟨false, [], [], .det 2 (.copy 3), [22, 3], (some 22), none⟩,
   ⟨false, [], [], .det 2 (.copy 22), [2, 22], (some 2), none⟩])
 .ret))))
def s_ltoDiskS : Sig := ⟨[.rd false [.sl (.own none) [.sl (.own none) [.d, .d, .d]]]], (.one false [.sl (.own none) [.sl (.own none) [.d, .d, .d]]])⟩
noncomputable def E_ltoDiskS : TEnv := envOf [(61, p_ltoDisk)]
noncomputable def f_ltoDiskS (n : Nat) : (List (List (ByteArray × ByteArray × Int))) → Option ((List (List (ByteArray × ByteArray × Int))) × Unit) := runFn n E_ltoDiskS c_ltoDiskS [[.sl [.sl [.s, .s, .i .i64]]]] [.sl [.sl [.s, .s, .i .i64]]] [] [2] .no
noncomputable def g_ltoDiskS := f_ltoDiskS BIG
noncomputable def p_ltoDiskS : TSp := ⟨s_ltoDiskS, [[.sl [.sl [.s, .s, .i .i64]]]], [.sl [.sl [.s, .s, .i .i64]]], [], Ou.j .no, g_ltoDiskS⟩
theorem k_ltoDiskS : chkW PG E_ltoDiskS 205 s_ltoDiskS (c_ltoDiskS.ht 23) .no = some (c_ltoDiskS.wc E_ltoDiskS, [2]) := by kernel_rfl
theorem ok_ltoDiskS : p_ltoDiskS.Ok PG 205 := mkOk (env_cons ok_ltoDisk (env_nil PG)) k_ltoDiskS (by kernel_rfl)
theorem e_ltoDiskS (n : Nat) (a0 : List ((List (ByteArray × ByteArray × Int)))) : f_ltoDiskS n a0 =
  bif decide (0 ≤ (a0.length : Int)) then
   bif decide ((Int.toNat (a0.length : Int)) ≤ 4294967296) then
    Option.bind (loopT n (X := (List ((List (ByteArray × ByteArray × Int)))) × Int) (B := (List ((List (ByteArray × ByteArray × Int))))) (fun self1 x0 =>
      bif decide (x0.2 < (a0.length : Int)) then
       bnd a0.length x0.2 fun n2 =>
       Option.bind a0[n2]? fun y3 =>
       Option.bind (g_ltoDisk y3) fun r4 =>
       bnd x0.1.length x0.2 fun n5 =>
       Option.bind x0.1[n5]? fun y6 =>
       self1 (x0.1.set n5 r4.1, IntKind.wrap .i64 (x0.2 + (1 : Int)))
      else some x0.1) (List.replicate (Int.toNat (a0.length : Int)) [], (0 : Int)) : Option ((List ((List (ByteArray × ByteArray × Int)))))) fun x7 =>
    some (x7, ())
   else none
  else none := by kernel_rfl
/- laws.toBoolS -/
def c_ltoBoolS : TC :=
 (.seq (.rg [o1 2 (.lit [.sl [.b]] [.slice none 0 0])])
 (.seq (.rg [o1 5 (.copy 0),
   o1 6 (.len 5),
   o1 7 (.make (.t 6) [.b]),
   ⟨false, [], [], .det 2 (.copy 7), [3, 7], (some 3), none⟩])
 (.seq (.join [⟨3, [.sl [.b]], false⟩] 2096920 none (.seq (.rg [o1 4 (.lit [.i .i64] [.int .i64 (0)])])
 (.block 0 (.loop [⟨3, [.sl [.b]], false⟩, ⟨4, [.i .i64], false⟩] 2096920
  (.seq (.seq (.rg [o1 8 (.copy 4),
    o1 9 (.copy 0),
    o1 10 (.len 9),
    o1 11 (.data (.bin .lss) [.t 8, .t 10])])
  (.cond (.t 11)
   .skip
   (.exit 0)))
  (.seq (.block 1 (.rg [⟨true, [], [], .det 1 (.copy 3), [14], (some 14), none⟩,
    o1 15 (.copy 4),
    o1 16 (.copy 0),
    o1 17 (.copy 4),
    o1 18 (.index 16 (.t 17)),
    o1 19 (.load 16 [(0, 1)] 0 (.t 18) 1 false),
    o1 20 (.index 14 (.t 15)),
    o4 1 [3, 14] (.store 3 [(0, 1)] 0 (.t 20) (.t 19))]))
  (.rg [o1 12 (.copy 4),
    o1 13 (.data (.bin .add) [.t 12, .c (.int .i64 (1))]),
    o1 4 (.copy 13)])))))))
 (.seq (.rg [⟨false, [], [], .det 2 (.copy 3), [21, 3], (some 21), none⟩,
   ⟨false, [], [], .det 2 (.copy 21), [2, 21], (some 2), none⟩])
 .ret))))
def s_ltoBoolS : Sig := ⟨[.rd false [.sl (.own none) [.d]]], (.one false [.sl (.own none) [.d]])⟩
noncomputable def E_ltoBoolS : TEnv := envOf []
noncomputable def f_ltoBoolS (n : Nat) : List (Bool) → Option ((List (Bool)) × Unit) := runFn n E_ltoBoolS c_ltoBoolS [[.sl [.b]]] [.sl [.b]] [] [2] .no
noncomputable def g_ltoBoolS := f_ltoBoolS BIG
noncomputable def p_ltoBoolS : TSp := ⟨s_ltoBoolS, [[.sl [.b]]], [.sl [.b]], [], Ou.j .no, g_ltoBoolS⟩
theorem k_ltoBoolS : chkW PG E_ltoBoolS 206 s_ltoBoolS (c_ltoBoolS.ht 22) .no = some (c_ltoBoolS.wc E_ltoBoolS, [2]) := by kernel_rfl
theorem ok_ltoBoolS : p_ltoBoolS.Ok PG 206 := mkOk (env_nil PG) k_ltoBoolS (by kernel_rfl)
theorem e_ltoBoolS (n : Nat) (a0 : List (Bool)) : f_ltoBoolS n a0 =
  bif decide (0 ≤ (a0.length : Int)) then
   bif decide ((Int.toNat (a0.length : Int)) ≤ 4294967296) then
    Option.bind (loopT n (X := (List (Bool)) × Int) (B := (List (Bool))) (fun self1 x0 =>
      bif decide (x0.2 < (a0.length : Int)) then
       bnd a0.length x0.2 fun n2 =>
       Option.bind a0[n2]? fun y3 =>
       bnd x0.1.length x0.2 fun n4 =>
       Option.bind x0.1[n4]? fun y5 =>
       self1 (x0.1.set n4 y3, IntKind.wrap .i64 (x0.2 + (1 : Int)))
      else some x0.1) (List.replicate (Int.toNat (a0.length : Int)) false, (0 : Int)) : Option ((List (Bool)))) fun x6 =>
    some (x6, ())
   else none
  else none := by kernel_rfl
/- laws.toPacket -/
def c_ltoPacket : TC :=
 (.seq (.rg [o1 1 (.a (.t 0)),
   ⟨false, [], [], .det 2 (.a (.c [.i .i64, .i .i64, .s] [.int .i64 (0), .int .i64 (0), .string ⟨#[]⟩])), [2, 1000000001], (some 2), none⟩])
 (.seq (.rg [⟨false, [], [], .det 2 (.a (.c [.i .i64, .i .i64, .s] [.int .i64 (0), .int .i64 (0), .string ⟨#[]⟩])), [3, 1000000001], (some 3), none⟩])
 (.seq (.rg [o1 4 (.idx .nil),
   o1 5 (.load 1 [] 0 (.t 4) 1 false),
   o1 6 (.idx .nil),
   o4 1 [3] (.store 3 [] 0 (.t 6) (.t 5))])
 (.seq (.rg [o1 7 (.idx .nil),
   o1 8 (.load 1 [] 1 (.t 7) 1 false),
   o1 9 (.idx .nil),
   o4 1 [3] (.store 3 [] 1 (.t 9) (.t 8))])
 (.seq (.rg [o1 10 (.idx .nil),
   o1 11 (.load 1 [] 2 (.t 10) 1 false),
   o1 12 (.idx .nil),
   o4 1 [3] (.store 3 [] 2 (.t 12) (.t 11))])
 (.seq (.rg [o1 13 (.load 3 [] 0 .nil 3 false),
   o4 1 [2] (.store 2 [] 0 .nil (.t 13))])
 .ret))))))
def s_ltoPacket : Sig := ⟨[.rd true [.d, .d, .d]], (.one true [.d, .d, .d])⟩
noncomputable def E_ltoPacket : TEnv := envOf []
noncomputable def f_ltoPacket (n : Nat) : (Int × Int × ByteArray) → Option ((Int × Int × ByteArray) × Unit) := runFn n E_ltoPacket c_ltoPacket [[.i .i64, .i .i64, .s]] [.i .i64, .i .i64, .s] [] [2] .no
noncomputable def g_ltoPacket := f_ltoPacket BIG
noncomputable def p_ltoPacket : TSp := ⟨s_ltoPacket, [[.i .i64, .i .i64, .s]], [.i .i64, .i .i64, .s], [], Ou.j .no, g_ltoPacket⟩
theorem k_ltoPacket : chkW PG E_ltoPacket 295 s_ltoPacket (c_ltoPacket.ht 14) .no = some (c_ltoPacket.wc E_ltoPacket, [2]) := by kernel_rfl
theorem ok_ltoPacket : p_ltoPacket.Ok PG 295 := mkOk (env_nil PG) k_ltoPacket (by kernel_rfl)
theorem e_ltoPacket (n : Nat) (a0 : Int × Int × ByteArray) : f_ltoPacket n a0 =
  some (a0, ()) := by kernel_rfl
/- laws.toPacketS -/
def c_ltoPacketS : TC :=
 (.seq (.rg [o1 2 (.lit [.sl [.i .i64, .i .i64, .s]] [.slice none 0 0])])
 (.seq (.rg [o1 5 (.copy 0),
   o1 6 (.len 5),
   o1 7 (.make (.t 6) [.i .i64, .i .i64, .s]),
   ⟨false, [], [], .det 2 (.copy 7), [3, 7], (some 3), none⟩])
 (.seq (.join [⟨3, [.sl [.i .i64, .i .i64, .s]], false⟩] 4194072 none (.seq (.rg [o1 4 (.lit [.i .i64] [.int .i64 (0)])])
 (.block 0 (.loop [⟨3, [.sl [.i .i64, .i .i64, .s]], false⟩, ⟨4, [.i .i64], false⟩] 4194072
  (.seq (.seq (.rg [o1 8 (.copy 4),
    o1 9 (.copy 0),
    o1 10 (.len 9),
    o1 11 (.data (.bin .lss) [.t 8, .t 10])])
  (.cond (.t 11)
   .skip
   (.exit 0)))
  (.seq (.block 1 (.rg [⟨true, [], [], .det 1 (.copy 3), [14], (some 14), none⟩,
    o1 15 (.copy 4),
    o1 16 (.copy 0),
    o1 17 (.copy 4),
    o1 18 (.index 16 (.t 17)),
    o1 19 (.load 16 [(0, 3)] 0 (.t 18) 3 false),
    o3 20 295 [.t 19],
    o1 21 (.index 14 (.t 15)),
    o4 1 [3, 14] (.store 3 [(0, 3)] 0 (.t 21) (.t 20))]))
  (.rg [o1 12 (.copy 4),
    o1 13 (.data (.bin .add) [.t 12, .c (.int .i64 (1))]),
    o1 4 (.copy 13)])))))))
 (.seq (.rg [⟨false, [], [], .det 2 (.copy 3), [22, 3], (some 22), none⟩,
   ⟨false, [], [], .det 2 (.copy 22), [2, 22], (some 2), none⟩])
 .ret))))
def s_ltoPacketS : Sig := ⟨[.rd false [.sl (.own none) [.d, .d, .d]]], (.one false [.sl (.own none) [.d, .d, .d]])⟩
noncomputable def E_ltoPacketS : TEnv := envOf [(295, p_ltoPacket)]
noncomputable def f_ltoPacketS (n : Nat) : (List (Int × Int × ByteArray)) → Option ((List (Int × Int × ByteArray)) × Unit) := runFn n E_ltoPacketS c_ltoPacketS [[.sl [.i .i64, .i .i64, .s]]] [.sl [.i .i64, .i .i64, .s]] [] [2] .no
noncomputable def g_ltoPacketS := f_ltoPacketS BIG
noncomputable def p_ltoPacketS : TSp := ⟨s_ltoPacketS, [[.sl [.i .i64, .i .i64, .s]]], [.sl [.i .i64, .i .i64, .s]], [], Ou.j .no, g_ltoPacketS⟩
theorem k_ltoPacketS : chkW PG E_ltoPacketS 207 s_ltoPacketS (c_ltoPacketS.ht 23) .no = some (c_ltoPacketS.wc E_ltoPacketS, [2]) := by kernel_rfl
theorem ok_ltoPacketS : p_ltoPacketS.Ok PG 207 := mkOk (env_cons ok_ltoPacket (env_nil PG)) k_ltoPacketS (by kernel_rfl)
theorem e_ltoPacketS (n : Nat) (a0 : List (Int × Int × ByteArray)) : f_ltoPacketS n a0 =
  bif decide (0 ≤ (a0.length : Int)) then
   bif decide ((Int.toNat (a0.length : Int)) ≤ 4294967296) then
    Option.bind (loopT n (X := (List (Int × Int × ByteArray)) × Int) (B := (List (Int × Int × ByteArray))) (fun self1 x0 =>
      bif decide (x0.2 < (a0.length : Int)) then
       bnd a0.length x0.2 fun n2 =>
       Option.bind a0[n2]? fun y3 =>
       Option.bind (g_ltoPacket y3) fun r4 =>
       bnd x0.1.length x0.2 fun n5 =>
       Option.bind x0.1[n5]? fun y6 =>
       self1 (x0.1.set n5 r4.1, IntKind.wrap .i64 (x0.2 + (1 : Int)))
      else some x0.1) (List.replicate (Int.toNat (a0.length : Int)) ((0 : Int), (0 : Int), ByteArray.empty), (0 : Int)) : Option ((List (Int × Int × ByteArray)))) fun x7 =>
    some (x7, ())
   else none
  else none := by kernel_rfl
/- laws.toCall -/
def c_ltoCall : TC :=
 (.seq (.rg [o1 1 (.a (.t 0)),
   ⟨false, [], [], .det 2 (.a (.c [.i .i64, .i .i64, .i .i64, .i .i64, .i .i64, .i .i64, .i .i64] [.int .i64 (0), .int .i64 (0), .int .i64 (0), .int .i64 (0), .int .i64 (0), .int .i64 (0), .int .i64 (0)])), [2, 1000000001], (some 2), none⟩])
 (.seq (.rg [⟨false, [], [], .det 2 (.a (.c [.i .i64, .i .i64, .i .i64, .i .i64, .i .i64, .i .i64, .i .i64] [.int .i64 (0), .int .i64 (0), .int .i64 (0), .int .i64 (0), .int .i64 (0), .int .i64 (0), .int .i64 (0)])), [3, 1000000001], (some 3), none⟩])
 (.seq (.rg [o1 4 (.idx .nil),
   o1 5 (.load 1 [] 0 (.t 4) 4 false),
   o3 6 80 [.t 5],
   o1 7 (.idx .nil),
   o4 1 [3] (.store 3 [] 0 (.t 7) (.t 6))])
 (.seq (.rg [o1 8 (.idx .nil),
   o1 9 (.load 1 [] 4 (.t 8) 1 false),
   o1 10 (.idx .nil),
   o4 1 [3] (.store 3 [] 4 (.t 10) (.t 9))])
 (.seq (.rg [o1 11 (.idx .nil),
   o1 12 (.load 1 [] 5 (.t 11) 1 false),
   o1 13 (.idx .nil),
   o4 1 [3] (.store 3 [] 5 (.t 13) (.t 12))])
 (.seq (.rg [o1 14 (.idx .nil),
   o1 15 (.load 1 [] 6 (.t 14) 1 false),
   o1 16 (.idx .nil),
   o4 1 [3] (.store 3 [] 6 (.t 16) (.t 15))])
 (.seq (.rg [o1 17 (.load 3 [] 0 .nil 7 false),
   o4 1 [2] (.store 2 [] 0 .nil (.t 17))])
 .ret)))))))
def s_ltoCall : Sig := ⟨[.rd true [.d, .d, .d, .d, .d, .d, .d]], (.one true [.d, .d, .d, .d, .d, .d, .d])⟩
noncomputable def E_ltoCall : TEnv := envOf [(80, p_ltoAsk)]
noncomputable def f_ltoCall (n : Nat) : (Int × Int × Int × Int × Int × Int × Int) → Option ((Int × Int × Int × Int × Int × Int × Int) × Unit) := runFn n E_ltoCall c_ltoCall [[.i .i64, .i .i64, .i .i64, .i .i64, .i .i64, .i .i64, .i .i64]] [.i .i64, .i .i64, .i .i64, .i .i64, .i .i64, .i .i64, .i .i64] [] [2] .no
noncomputable def g_ltoCall := f_ltoCall BIG
noncomputable def p_ltoCall : TSp := ⟨s_ltoCall, [[.i .i64, .i .i64, .i .i64, .i .i64, .i .i64, .i .i64, .i .i64]], [.i .i64, .i .i64, .i .i64, .i .i64, .i .i64, .i .i64, .i .i64], [], Ou.j .no, g_ltoCall⟩
theorem k_ltoCall : chkW PG E_ltoCall 296 s_ltoCall (c_ltoCall.ht 18) .no = some (c_ltoCall.wc E_ltoCall, [2]) := by kernel_rfl
theorem ok_ltoCall : p_ltoCall.Ok PG 296 := mkOk (env_cons ok_ltoAsk (env_nil PG)) k_ltoCall (by kernel_rfl)
theorem e_ltoCall (n : Nat) (a0 : Int × Int × Int × Int × Int × Int × Int) : f_ltoCall n a0 =
  Option.bind (g_ltoAsk (a0.1, a0.2.1, a0.2.2.1, a0.2.2.2.1)) fun r0 =>
  some ((r0.1.1, r0.1.2.1, r0.1.2.2.1, r0.1.2.2.2, a0.2.2.2.2), ()) := by kernel_rfl
/- laws.toCallS -/
def c_ltoCallS : TC :=
 (.seq (.rg [o1 2 (.lit [.sl [.i .i64, .i .i64, .i .i64, .i .i64, .i .i64, .i .i64, .i .i64]] [.slice none 0 0])])
 (.seq (.rg [o1 5 (.copy 0),
   o1 6 (.len 5),
   o1 7 (.make (.t 6) [.i .i64, .i .i64, .i .i64, .i .i64, .i .i64, .i .i64, .i .i64]),
   ⟨false, [], [], .det 2 (.copy 7), [3, 7], (some 3), none⟩])
 (.seq (.join [⟨3, [.sl [.i .i64, .i .i64, .i .i64, .i .i64, .i .i64, .i .i64, .i .i64]], false⟩] 4194072 none (.seq (.rg [o1 4 (.lit [.i .i64] [.int .i64 (0)])])
 (.block 0 (.loop [⟨3, [.sl [.i .i64, .i .i64, .i .i64, .i .i64, .i .i64, .i .i64, .i .i64]], false⟩, ⟨4, [.i .i64], false⟩] 4194072
  (.seq (.seq (.rg [o1 8 (.copy 4),
    o1 9 (.copy 0),
    o1 10 (.len 9),
    o1 11 (.data (.bin .lss) [.t 8, .t 10])])
  (.cond (.t 11)
   .skip
   (.exit 0)))
  (.seq (.block 1 (.rg [⟨true, [], [], .det 1 (.copy 3), [14], (some 14), none⟩,
    o1 15 (.copy 4),
    o1 16 (.copy 0),
    o1 17 (.copy 4),
    o1 18 (.index 16 (.t 17)),
    o1 19 (.load 16 [(0, 7)] 0 (.t 18) 7 false),
    o3 20 296 [.t 19],
    o1 21 (.index 14 (.t 15)),
    o4 1 [3, 14] (.store 3 [(0, 7)] 0 (.t 21) (.t 20))]))
  (.rg [o1 12 (.copy 4),
    o1 13 (.data (.bin .add) [.t 12, .c (.int .i64 (1))]),
    o1 4 (.copy 13)])))))))
 (.seq (.rg [⟨false, [], [], .det 2 (.copy 3), [22, 3], (some 22), none⟩,
   ⟨false, [], [], .det 2 (.copy 22), [2, 22], (some 2), none⟩])
 .ret))))
def s_ltoCallS : Sig := ⟨[.rd false [.sl (.own none) [.d, .d, .d, .d, .d, .d, .d]]], (.one false [.sl (.own none) [.d, .d, .d, .d, .d, .d, .d]])⟩
noncomputable def E_ltoCallS : TEnv := envOf [(296, p_ltoCall)]
noncomputable def f_ltoCallS (n : Nat) : (List (Int × Int × Int × Int × Int × Int × Int)) → Option ((List (Int × Int × Int × Int × Int × Int × Int)) × Unit) := runFn n E_ltoCallS c_ltoCallS [[.sl [.i .i64, .i .i64, .i .i64, .i .i64, .i .i64, .i .i64, .i .i64]]] [.sl [.i .i64, .i .i64, .i .i64, .i .i64, .i .i64, .i .i64, .i .i64]] [] [2] .no
noncomputable def g_ltoCallS := f_ltoCallS BIG
noncomputable def p_ltoCallS : TSp := ⟨s_ltoCallS, [[.sl [.i .i64, .i .i64, .i .i64, .i .i64, .i .i64, .i .i64, .i .i64]]], [.sl [.i .i64, .i .i64, .i .i64, .i .i64, .i .i64, .i .i64, .i .i64]], [], Ou.j .no, g_ltoCallS⟩
theorem k_ltoCallS : chkW PG E_ltoCallS 208 s_ltoCallS (c_ltoCallS.ht 23) .no = some (c_ltoCallS.wc E_ltoCallS, [2]) := by kernel_rfl
theorem ok_ltoCallS : p_ltoCallS.Ok PG 208 := mkOk (env_cons ok_ltoCall (env_nil PG)) k_ltoCallS (by kernel_rfl)
theorem e_ltoCallS (n : Nat) (a0 : List (Int × Int × Int × Int × Int × Int × Int)) : f_ltoCallS n a0 =
  bif decide (0 ≤ (a0.length : Int)) then
   bif decide ((Int.toNat (a0.length : Int)) ≤ 4294967296) then
    Option.bind (loopT n (X := (List (Int × Int × Int × Int × Int × Int × Int)) × Int) (B := (List (Int × Int × Int × Int × Int × Int × Int))) (fun self1 x0 =>
      bif decide (x0.2 < (a0.length : Int)) then
       bnd a0.length x0.2 fun n2 =>
       Option.bind a0[n2]? fun y3 =>
       Option.bind (g_ltoCall y3) fun r4 =>
       bnd x0.1.length x0.2 fun n5 =>
       Option.bind x0.1[n5]? fun y6 =>
       self1 (x0.1.set n5 r4.1, IntKind.wrap .i64 (x0.2 + (1 : Int)))
      else some x0.1) (List.replicate (Int.toNat (a0.length : Int)) ((0 : Int), (0 : Int), (0 : Int), (0 : Int), (0 : Int), (0 : Int), (0 : Int)), (0 : Int)) : Option ((List (Int × Int × Int × Int × Int × Int × Int)))) fun x7 =>
    some (x7, ())
   else none
  else none := by kernel_rfl
/- laws.toRec -/
def c_ltoRec : TC :=
 (.seq (.rg [o1 1 (.a (.t 0)),
   ⟨false, [], [], .det 2 (.a (.c [.i .i64, .i .i64, .i .i64, .i .i64, .i .i64, .i .i64, .i .i64, .b, .sl [.i .i64, .i .i64], .sl [.i .i64], .i .i64, .i .i64, .sl [.i .i64, .i .i64], .i .i64] [.int .i64 (0), .int .i64 (0), .int .i64 (0), .int .i64 (0), .int .i64 (0), .int .i64 (0), .int .i64 (0), .bool false, .slice none 0 0, .slice none 0 0, .int .i64 (0), .int .i64 (0), .slice none 0 0, .int .i64 (0)])), [2, 1000000001], (some 2), none⟩])
 (.seq (.rg [⟨false, [], [], .det 2 (.a (.c [.i .i64, .i .i64, .i .i64, .i .i64, .i .i64, .i .i64, .i .i64, .b, .sl [.i .i64, .i .i64], .sl [.i .i64], .i .i64, .i .i64, .sl [.i .i64, .i .i64], .i .i64] [.int .i64 (0), .int .i64 (0), .int .i64 (0), .int .i64 (0), .int .i64 (0), .int .i64 (0), .int .i64 (0), .bool false, .slice none 0 0, .slice none 0 0, .int .i64 (0), .int .i64 (0), .slice none 0 0, .int .i64 (0)])), [3, 1000000001], (some 3), none⟩])
 (.seq (.rg [o1 4 (.idx .nil),
   o1 5 (.load 1 [] 0 (.t 4) 1 false),
   o1 6 (.idx .nil),
   o4 1 [3] (.store 3 [] 0 (.t 6) (.t 5))])
 (.seq (.rg [o1 7 (.idx .nil),
   o1 8 (.load 1 [] 1 (.t 7) 4 false),
   o3 9 80 [.t 8],
   o1 10 (.idx .nil),
   o4 1 [3] (.store 3 [] 1 (.t 10) (.t 9))])
 (.seq (.rg [o1 11 (.idx .nil),
   o1 12 (.load 1 [] 5 (.t 11) 1 false),
   o1 13 (.idx .nil),
   o4 1 [3] (.store 3 [] 5 (.t 13) (.t 12))])
 (.seq (.rg [o1 14 (.idx .nil),
   o1 15 (.load 1 [] 6 (.t 14) 4 false),
   o3 16 72 [.t 15],
   o1 17 (.idx .nil),
   o4 2 [3, 16] (.store 3 [] 6 (.t 17) (.t 16))])
 (.seq (.rg [o1 18 (.idx .nil),
   o1 19 (.load 1 [] 10 (.t 18) 4 false),
   o3 20 285 [.t 19],
   o1 21 (.idx .nil),
   o4 2 [3, 20] (.store 3 [] 10 (.t 21) (.t 20))])
 (.seq (.rg [o1 22 (.load 3 [] 0 .nil 14 true),
   ⟨false, [22], [], .det 2 (.store 2 [] 0 .nil (.t 22)), [2, 22, 22, 3], none, none⟩])
 .ret))))))))
def s_ltoRec : Sig := ⟨[.rd true [.d, .d, .d, .d, .d, .d, .d, .d, .sl (.own none) [.d, .d], .sl (.own none) [.d], .d, .d, .sl (.own none) [.d, .d], .d]], (.one true [.d, .d, .d, .d, .d, .d, .d, .d, .sl (.own none) [.d, .d], .sl (.own none) [.d], .d, .d, .sl (.own none) [.d, .d], .d])⟩
noncomputable def E_ltoRec : TEnv := envOf [(80, p_ltoAsk), (72, p_ltoAnswer), (285, p_ltoOrder)]
noncomputable def f_ltoRec (n : Nat) : (Int × Int × Int × Int × Int × Int × Int × Bool × List (Int × Int) × List (Int) × Int × Int × List (Int × Int) × Int) → Option ((Int × Int × Int × Int × Int × Int × Int × Bool × List (Int × Int) × List (Int) × Int × Int × List (Int × Int) × Int) × Unit) := runFn n E_ltoRec c_ltoRec [[.i .i64, .i .i64, .i .i64, .i .i64, .i .i64, .i .i64, .i .i64, .b, .sl [.i .i64, .i .i64], .sl [.i .i64], .i .i64, .i .i64, .sl [.i .i64, .i .i64], .i .i64]] [.i .i64, .i .i64, .i .i64, .i .i64, .i .i64, .i .i64, .i .i64, .b, .sl [.i .i64, .i .i64], .sl [.i .i64], .i .i64, .i .i64, .sl [.i .i64, .i .i64], .i .i64] [] [2] .no
noncomputable def g_ltoRec := f_ltoRec BIG
noncomputable def p_ltoRec : TSp := ⟨s_ltoRec, [[.i .i64, .i .i64, .i .i64, .i .i64, .i .i64, .i .i64, .i .i64, .b, .sl [.i .i64, .i .i64], .sl [.i .i64], .i .i64, .i .i64, .sl [.i .i64, .i .i64], .i .i64]], [.i .i64, .i .i64, .i .i64, .i .i64, .i .i64, .i .i64, .i .i64, .b, .sl [.i .i64, .i .i64], .sl [.i .i64], .i .i64, .i .i64, .sl [.i .i64, .i .i64], .i .i64], [], Ou.j .no, g_ltoRec⟩
theorem k_ltoRec : chkW PG E_ltoRec 297 s_ltoRec (c_ltoRec.ht 23) .no = some (c_ltoRec.wc E_ltoRec, [2]) := by kernel_rfl
theorem ok_ltoRec : p_ltoRec.Ok PG 297 := mkOk (env_cons ok_ltoAsk (env_cons ok_ltoAnswer (env_cons ok_ltoOrder (env_nil PG)))) k_ltoRec (by kernel_rfl)
theorem e_ltoRec (n : Nat) (a0 : Int × Int × Int × Int × Int × Int × Int × Bool × List (Int × Int) × List (Int) × Int × Int × List (Int × Int) × Int) : f_ltoRec n a0 =
  Option.bind (g_ltoAsk (a0.2.1, a0.2.2.1, a0.2.2.2.1, a0.2.2.2.2.1)) fun r0 =>
  Option.bind (g_ltoAnswer (a0.2.2.2.2.2.2.1, a0.2.2.2.2.2.2.2.1, a0.2.2.2.2.2.2.2.2.1, a0.2.2.2.2.2.2.2.2.2.1)) fun r1 =>
  Option.bind (g_ltoOrder a0.2.2.2.2.2.2.2.2.2.2) fun r2 =>
  some ((a0.1, r0.1.1, r0.1.2.1, r0.1.2.2.1, r0.1.2.2.2, a0.2.2.2.2.2.1, r1.1.1, r1.1.2.1, r1.1.2.2.1, r1.1.2.2.2, r2.1), ()) := by kernel_rfl
/- laws.toRecS -/
def c_ltoRecS : TC :=
 (.seq (.rg [o1 2 (.lit [.sl [.i .i64, .i .i64, .i .i64, .i .i64, .i .i64, .i .i64, .i .i64, .b, .sl [.i .i64, .i .i64], .sl [.i .i64], .i .i64, .i .i64, .sl [.i .i64, .i .i64], .i .i64]] [.slice none 0 0])])
 (.seq (.rg [o1 5 (.copy 0),
   o1 6 (.len 5),
   o1 7 (.make (.t 6) [.i .i64, .i .i64, .i .i64, .i .i64, .i .i64, .i .i64, .i .i64, .b, .sl [.i .i64, .i .i64], .sl [.i .i64], .i .i64, .i .i64, .sl [.i .i64, .i .i64], .i .i64]),
   ⟨false, [], [], .det 2 (.copy 7), [3, 7], (some 3), none⟩])
 (.seq (.join [⟨3, [.sl [.i .i64, .i .i64, .i .i64, .i .i64, .i .i64, .i .i64, .i .i64, .b, .sl [.i .i64, .i .i64], .sl [.i .i64], .i .i64, .i .i64, .sl [.i .i64, .i .i64], .i .i64]], false⟩] 4194072 none (.seq (.rg [o1 4 (.lit [.i .i64] [.int .i64 (0)])])
 (.block 0 (.loop [⟨3, [.sl [.i .i64, .i .i64, .i .i64, .i .i64, .i .i64, .i .i64, .i .i64, .b, .sl [.i .i64, .i .i64], .sl [.i .i64], .i .i64, .i .i64, .sl [.i .i64, .i .i64], .i .i64]], false⟩, ⟨4, [.i .i64], false⟩] 4194072
  (.seq (.seq (.rg [o1 8 (.copy 4),
    o1 9 (.copy 0),
    o1 10 (.len 9),
    o1 11 (.data (.bin .lss) [.t 8, .t 10])])
  (.cond (.t 11)
   .skip
   (.exit 0)))
  (.seq (.block 1 (.rg [⟨true, [], [], .det 1 (.copy 3), [14], (some 14), none⟩,
    o1 15 (.copy 4),
    o1 16 (.copy 0),
    o1 17 (.copy 4),
    o1 18 (.index 16 (.t 17)),
    o1 19 (.load 16 [(0, 14)] 0 (.t 18) 14 false),
    o3 20 297 [.t 19],
    o1 21 (.index 14 (.t 15)),
    o4 2 [3, 20, 21, 14] (.store 3 [(0, 14)] 0 (.t 21) (.t 20))]))
  (.rg [o1 12 (.copy 4),
    o1 13 (.data (.bin .add) [.t 12, .c (.int .i64 (1))]),
    o1 4 (.copy 13)])))))))
 (.seq (.rg [⟨false, [], [], .det 2 (.copy 3), [22, 3], (some 22), none⟩,
   ⟨false, [], [], .det 2 (.copy 22), [2, 22], (some 2), none⟩])
 .ret))))
def s_ltoRecS : Sig := ⟨[.rd false [.sl (.own none) [.d, .d, .d, .d, .d, .d, .d, .d, .sl (.own none) [.d, .d], .sl (.own none) [.d], .d, .d, .sl (.own none) [.d, .d], .d]]], (.one false [.sl (.own none) [.d, .d, .d, .d, .d, .d, .d, .d, .sl (.own none) [.d, .d], .sl (.own none) [.d], .d, .d, .sl (.own none) [.d, .d], .d]])⟩
noncomputable def E_ltoRecS : TEnv := envOf [(297, p_ltoRec)]
noncomputable def f_ltoRecS (n : Nat) : (List (Int × Int × Int × Int × Int × Int × Int × Bool × List (Int × Int) × List (Int) × Int × Int × List (Int × Int) × Int)) → Option ((List (Int × Int × Int × Int × Int × Int × Int × Bool × List (Int × Int) × List (Int) × Int × Int × List (Int × Int) × Int)) × Unit) := runFn n E_ltoRecS c_ltoRecS [[.sl [.i .i64, .i .i64, .i .i64, .i .i64, .i .i64, .i .i64, .i .i64, .b, .sl [.i .i64, .i .i64], .sl [.i .i64], .i .i64, .i .i64, .sl [.i .i64, .i .i64], .i .i64]]] [.sl [.i .i64, .i .i64, .i .i64, .i .i64, .i .i64, .i .i64, .i .i64, .b, .sl [.i .i64, .i .i64], .sl [.i .i64], .i .i64, .i .i64, .sl [.i .i64, .i .i64], .i .i64]] [] [2] .no
noncomputable def g_ltoRecS := f_ltoRecS BIG
noncomputable def p_ltoRecS : TSp := ⟨s_ltoRecS, [[.sl [.i .i64, .i .i64, .i .i64, .i .i64, .i .i64, .i .i64, .i .i64, .b, .sl [.i .i64, .i .i64], .sl [.i .i64], .i .i64, .i .i64, .sl [.i .i64, .i .i64], .i .i64]]], [.sl [.i .i64, .i .i64, .i .i64, .i .i64, .i .i64, .i .i64, .i .i64, .b, .sl [.i .i64, .i .i64], .sl [.i .i64], .i .i64, .i .i64, .sl [.i .i64, .i .i64], .i .i64]], [], Ou.j .no, g_ltoRecS⟩
theorem k_ltoRecS : chkW PG E_ltoRecS 209 s_ltoRecS (c_ltoRecS.ht 23) .no = some (c_ltoRecS.wc E_ltoRecS, [2]) := by kernel_rfl
theorem ok_ltoRecS : p_ltoRecS.Ok PG 209 := mkOk (env_cons ok_ltoRec (env_nil PG)) k_ltoRecS (by kernel_rfl)
theorem e_ltoRecS (n : Nat) (a0 : List (Int × Int × Int × Int × Int × Int × Int × Bool × (List (Int × Int)) × (List (Int)) × Int × Int × (List (Int × Int)) × Int)) : f_ltoRecS n a0 =
  bif decide (0 ≤ (a0.length : Int)) then
   bif decide ((Int.toNat (a0.length : Int)) ≤ 4294967296) then
    Option.bind (loopT n (X := (List (Int × Int × Int × Int × Int × Int × Int × Bool × (List (Int × Int)) × (List (Int)) × Int × Int × (List (Int × Int)) × Int)) × Int) (B := (List (Int × Int × Int × Int × Int × Int × Int × Bool × (List (Int × Int)) × (List (Int)) × Int × Int × (List (Int × Int)) × Int))) (fun self1 x0 =>
      bif decide (x0.2 < (a0.length : Int)) then
       bnd a0.length x0.2 fun n2 =>
       Option.bind a0[n2]? fun y3 =>
       Option.bind (g_ltoRec y3) fun r4 =>
       bnd x0.1.length x0.2 fun n5 =>
       Option.bind x0.1[n5]? fun y6 =>
       self1 (x0.1.set n5 r4.1, IntKind.wrap .i64 (x0.2 + (1 : Int)))
      else some x0.1) (List.replicate (Int.toNat (a0.length : Int)) ((0 : Int), (0 : Int), (0 : Int), (0 : Int), (0 : Int), (0 : Int), (0 : Int), false, [], [], (0 : Int), (0 : Int), [], (0 : Int)), (0 : Int)) : Option ((List (Int × Int × Int × Int × Int × Int × Int × Bool × (List (Int × Int)) × (List (Int)) × Int × Int × (List (Int × Int)) × Int)))) fun x7 =>
    some (x7, ())
   else none
  else none := by kernel_rfl
/- laws.toWorld -/
def c_ltoWorld : TC :=
 (.seq (.rg [o1 1 (.a (.t 0)),
   ⟨false, [], [], .det 2 (.a (.c [.i .i64, .i .i64, .sl [.i .i64], .sl [.i .i64, .i .i64], .sl [.sl [.i .i64]], .sl [.i .i64], .i .i64, .i .i64, .i .i64, .i .i64, .i .i64, .i .i64, .i .i64, .sl [.i .i64, .i .i64], .i .i64, .sl [.i .i64, .i .i64, .i .i64, .i .i64, .i .i64, .i .i64], .sl [.i .i64, .i .i64, .sl [.i .i64, .i .i64, .i .i64, .b], .i .i64, .b, .sl [.i .i64, .i .i64], .sl [.i .i64]], .sl [.sl [.s, .s, .i .i64]], .sl [.b], .sl [.i .i64, .i .i64, .s], .sl [.i .i64, .i .i64, .i .i64, .i .i64, .i .i64, .i .i64, .i .i64], .sl [.i .i64, .i .i64, .i .i64, .i .i64, .i .i64, .i .i64, .i .i64, .b, .sl [.i .i64, .i .i64], .sl [.i .i64], .i .i64, .i .i64, .sl [.i .i64, .i .i64], .i .i64]] [.int .i64 (0), .int .i64 (0), .slice none 0 0, .slice none 0 0, .slice none 0 0, .slice none 0 0, .int .i64 (0), .int .i64 (0), .int .i64 (0), .int .i64 (0), .int .i64 (0), .int .i64 (0), .int .i64 (0), .slice none 0 0, .int .i64 (0), .slice none 0 0, .slice none 0 0, .slice none 0 0, .slice none 0 0, .slice none 0 0, .slice none 0 0, .slice none 0 0])), [2, 1000000001], (some 2), none⟩])
 (.seq (.rg [⟨false, [], [], .det 2 (.a (.c [.i .i64, .i .i64, .sl [.i .i64], .sl [.i .i64, .i .i64], .sl [.sl [.i .i64]], .sl [.i .i64], .i .i64, .i .i64, .i .i64, .i .i64, .i .i64, .i .i64, .i .i64, .sl [.i .i64, .i .i64], .i .i64, .sl [.i .i64, .i .i64, .i .i64, .i .i64, .i .i64, .i .i64], .sl [.i .i64, .i .i64, .sl [.i .i64, .i .i64, .i .i64, .b], .i .i64, .b, .sl [.i .i64, .i .i64], .sl [.i .i64]], .sl [.sl [.s, .s, .i .i64]], .sl [.b], .sl [.i .i64, .i .i64, .s], .sl [.i .i64, .i .i64, .i .i64, .i .i64, .i .i64, .i .i64, .i .i64], .sl [.i .i64, .i .i64, .i .i64, .i .i64, .i .i64, .i .i64, .i .i64, .b, .sl [.i .i64, .i .i64], .sl [.i .i64], .i .i64, .i .i64, .sl [.i .i64, .i .i64], .i .i64]] [.int .i64 (0), .int .i64 (0), .slice none 0 0, .slice none 0 0, .slice none 0 0, .slice none 0 0, .int .i64 (0), .int .i64 (0), .int .i64 (0), .int .i64 (0), .int .i64 (0), .int .i64 (0), .int .i64 (0), .slice none 0 0, .int .i64 (0), .slice none 0 0, .slice none 0 0, .slice none 0 0, .slice none 0 0, .slice none 0 0, .slice none 0 0, .slice none 0 0])), [3, 1000000001], (some 3), none⟩])
 (.seq (.rg [o1 4 (.idx .nil),
   o1 5 (.load 1 [] 0 (.t 4) 1 false),
   o1 6 (.idx .nil),
   o4 1 [3] (.store 3 [] 0 (.t 6) (.t 5))])
 (.seq (.rg [o1 7 (.idx .nil),
   o1 8 (.load 1 [] 1 (.t 7) 15 false),
   o3 9 71 [.t 8],
   o1 10 (.idx .nil),
   o4 2 [3, 9] (.store 3 [] 1 (.t 10) (.t 9))])
 (.seq (.rg [o1 11 (.idx .nil),
   o1 12 (.load 1 [] 16 (.t 11) 1 false),
   o3 13 204 [.t 12],
   o1 14 (.idx .nil),
   o4 2 [3, 13] (.store 3 [] 16 (.t 14) (.t 13))])
 (.seq (.rg [o1 15 (.idx .nil),
   o1 16 (.load 1 [] 17 (.t 15) 1 false),
   o3 17 205 [.t 16],
   o1 18 (.idx .nil),
   o4 2 [3, 17] (.store 3 [] 17 (.t 18) (.t 17))])
 (.seq (.rg [o1 19 (.idx .nil),
   o1 20 (.load 1 [] 18 (.t 19) 1 false),
   o3 21 206 [.t 20],
   o1 22 (.idx .nil),
   o4 2 [3, 21] (.store 3 [] 18 (.t 22) (.t 21))])
 (.seq (.rg [o1 23 (.idx .nil),
   o1 24 (.load 1 [] 19 (.t 23) 1 false),
   o3 25 207 [.t 24],
   o1 26 (.idx .nil),
   o4 2 [3, 25] (.store 3 [] 19 (.t 26) (.t 25))])
 (.seq (.rg [o1 27 (.idx .nil),
   o1 28 (.load 1 [] 20 (.t 27) 1 false),
   o3 29 208 [.t 28],
   o1 30 (.idx .nil),
   o4 2 [3, 29] (.store 3 [] 20 (.t 30) (.t 29))])
 (.seq (.rg [o1 31 (.idx .nil),
   o1 32 (.load 1 [] 21 (.t 31) 1 false),
   o3 33 209 [.t 32],
   o1 34 (.idx .nil),
   o4 2 [3, 33] (.store 3 [] 21 (.t 34) (.t 33))])
 (.seq (.rg [o1 35 (.load 3 [] 0 .nil 22 true),
   ⟨false, [35], [], .det 2 (.store 2 [] 0 .nil (.t 35)), [2, 35, 35, 3], none, none⟩])
 .ret)))))))))))
def s_ltoWorld : Sig := ⟨[.rd true [.d, .d, .sl (.own none) [.d], .sl (.own none) [.d, .d], .sl (.own none) [.sl (.own none) [.d]], .sl (.own none) [.d], .d, .d, .d, .d, .d, .d, .d, .sl (.own none) [.d, .d], .d, .sl (.own none) [.d, .d, .d, .d, .d, .d], .sl (.own none) [.d, .d, .sl (.own none) [.d, .d, .d, .d], .d, .d, .sl (.own none) [.d, .d], .sl (.own none) [.d]], .sl (.own none) [.sl (.own none) [.d, .d, .d]], .sl (.own none) [.d], .sl (.own none) [.d, .d, .d], .sl (.own none) [.d, .d, .d, .d, .d, .d, .d], .sl (.own none) [.d, .d, .d, .d, .d, .d, .d, .d, .sl (.own none) [.d, .d], .sl (.own none) [.d], .d, .d, .sl (.own none) [.d, .d], .d]]], (.one true [.d, .d, .sl (.own none) [.d], .sl (.own none) [.d, .d], .sl (.own none) [.sl (.own none) [.d]], .sl (.own none) [.d], .d, .d, .d, .d, .d, .d, .d, .sl (.own none) [.d, .d], .d, .sl (.own none) [.d, .d, .d, .d, .d, .d], .sl (.own none) [.d, .d, .sl (.own none) [.d, .d, .d, .d], .d, .d, .sl (.own none) [.d, .d], .sl (.own none) [.d]], .sl (.own none) [.sl (.own none) [.d, .d, .d]], .sl (.own none) [.d], .sl (.own none) [.d, .d, .d], .sl (.own none) [.d, .d, .d, .d, .d, .d, .d], .sl (.own none) [.d, .d, .d, .d, .d, .d, .d, .d, .sl (.own none) [.d, .d], .sl (.own none) [.d], .d, .d, .sl (.own none) [.d, .d], .d]])⟩
noncomputable def E_ltoWorld : TEnv := envOf [(71, p_ltoHead), (204, p_ltoShardS), (205, p_ltoDiskS), (206, p_ltoBoolS), (207, p_ltoPacketS), (208, p_ltoCallS), (209, p_ltoRecS)]
noncomputable def f_ltoWorld (n : Nat) : (Int × Int × List (Int) × List (Int × Int) × List (List (Int)) × List (Int) × Int × Int × Int × Int × Int × Int × Int × List (Int × Int) × Int × List (Int × Int × Int × Int × Int × Int) × List (Int × Int × List (Int × Int × Int × Bool) × Int × Bool × List (Int × Int) × List (Int)) × List (List (ByteArray × ByteArray × Int)) × List (Bool) × List (Int × Int × ByteArray) × List (Int × Int × Int × Int × Int × Int × Int) × List (Int × Int × Int × Int × Int × Int × Int × Bool × List (Int × Int) × List (Int) × Int × Int × List (Int × Int) × Int)) → Option ((Int × Int × List (Int) × List (Int × Int) × List (List (Int)) × List (Int) × Int × Int × Int × Int × Int × Int × Int × List (Int × Int) × Int × List (Int × Int × Int × Int × Int × Int) × List (Int × Int × List (Int × Int × Int × Bool) × Int × Bool × List (Int × Int) × List (Int)) × List (List (ByteArray × ByteArray × Int)) × List (Bool) × List (Int × Int × ByteArray) × List (Int × Int × Int × Int × Int × Int × Int) × List (Int × Int × Int × Int × Int × Int × Int × Bool × List (Int × Int) × List (Int) × Int × Int × List (Int × Int) × Int)) × Unit) := runFn n E_ltoWorld c_ltoWorld [[.i .i64, .i .i64, .sl [.i .i64], .sl [.i .i64, .i .i64], .sl [.sl [.i .i64]], .sl [.i .i64], .i .i64, .i .i64, .i .i64, .i .i64, .i .i64, .i .i64, .i .i64, .sl [.i .i64, .i .i64], .i .i64, .sl [.i .i64, .i .i64, .i .i64, .i .i64, .i .i64, .i .i64], .sl [.i .i64, .i .i64, .sl [.i .i64, .i .i64, .i .i64, .b], .i .i64, .b, .sl [.i .i64, .i .i64], .sl [.i .i64]], .sl [.sl [.s, .s, .i .i64]], .sl [.b], .sl [.i .i64, .i .i64, .s], .sl [.i .i64, .i .i64, .i .i64, .i .i64, .i .i64, .i .i64, .i .i64], .sl [.i .i64, .i .i64, .i .i64, .i .i64, .i .i64, .i .i64, .i .i64, .b, .sl [.i .i64, .i .i64], .sl [.i .i64], .i .i64, .i .i64, .sl [.i .i64, .i .i64], .i .i64]]] [.i .i64, .i .i64, .sl [.i .i64], .sl [.i .i64, .i .i64], .sl [.sl [.i .i64]], .sl [.i .i64], .i .i64, .i .i64, .i .i64, .i .i64, .i .i64, .i .i64, .i .i64, .sl [.i .i64, .i .i64], .i .i64, .sl [.i .i64, .i .i64, .i .i64, .i .i64, .i .i64, .i .i64], .sl [.i .i64, .i .i64, .sl [.i .i64, .i .i64, .i .i64, .b], .i .i64, .b, .sl [.i .i64, .i .i64], .sl [.i .i64]], .sl [.sl [.s, .s, .i .i64]], .sl [.b], .sl [.i .i64, .i .i64, .s], .sl [.i .i64, .i .i64, .i .i64, .i .i64, .i .i64, .i .i64, .i .i64], .sl [.i .i64, .i .i64, .i .i64, .i .i64, .i .i64, .i .i64, .i .i64, .b, .sl [.i .i64, .i .i64], .sl [.i .i64], .i .i64, .i .i64, .sl [.i .i64, .i .i64], .i .i64]] [] [2] .no
noncomputable def g_ltoWorld := f_ltoWorld BIG
noncomputable def p_ltoWorld : TSp := ⟨s_ltoWorld, [[.i .i64, .i .i64, .sl [.i .i64], .sl [.i .i64, .i .i64], .sl [.sl [.i .i64]], .sl [.i .i64], .i .i64, .i .i64, .i .i64, .i .i64, .i .i64, .i .i64, .i .i64, .sl [.i .i64, .i .i64], .i .i64, .sl [.i .i64, .i .i64, .i .i64, .i .i64, .i .i64, .i .i64], .sl [.i .i64, .i .i64, .sl [.i .i64, .i .i64, .i .i64, .b], .i .i64, .b, .sl [.i .i64, .i .i64], .sl [.i .i64]], .sl [.sl [.s, .s, .i .i64]], .sl [.b], .sl [.i .i64, .i .i64, .s], .sl [.i .i64, .i .i64, .i .i64, .i .i64, .i .i64, .i .i64, .i .i64], .sl [.i .i64, .i .i64, .i .i64, .i .i64, .i .i64, .i .i64, .i .i64, .b, .sl [.i .i64, .i .i64], .sl [.i .i64], .i .i64, .i .i64, .sl [.i .i64, .i .i64], .i .i64]]], [.i .i64, .i .i64, .sl [.i .i64], .sl [.i .i64, .i .i64], .sl [.sl [.i .i64]], .sl [.i .i64], .i .i64, .i .i64, .i .i64, .i .i64, .i .i64, .i .i64, .i .i64, .sl [.i .i64, .i .i64], .i .i64, .sl [.i .i64, .i .i64, .i .i64, .i .i64, .i .i64, .i .i64], .sl [.i .i64, .i .i64, .sl [.i .i64, .i .i64, .i .i64, .b], .i .i64, .b, .sl [.i .i64, .i .i64], .sl [.i .i64]], .sl [.sl [.s, .s, .i .i64]], .sl [.b], .sl [.i .i64, .i .i64, .s], .sl [.i .i64, .i .i64, .i .i64, .i .i64, .i .i64, .i .i64, .i .i64], .sl [.i .i64, .i .i64, .i .i64, .i .i64, .i .i64, .i .i64, .i .i64, .b, .sl [.i .i64, .i .i64], .sl [.i .i64], .i .i64, .i .i64, .sl [.i .i64, .i .i64], .i .i64]], [], Ou.j .no, g_ltoWorld⟩
theorem k_ltoWorld : chkW PG E_ltoWorld 83 s_ltoWorld (c_ltoWorld.ht 36) .no = some (c_ltoWorld.wc E_ltoWorld, [2]) := by kernel_rfl
theorem ok_ltoWorld : p_ltoWorld.Ok PG 83 := mkOk (env_cons ok_ltoHead (env_cons ok_ltoShardS (env_cons ok_ltoDiskS (env_cons ok_ltoBoolS (env_cons ok_ltoPacketS (env_cons ok_ltoCallS (env_cons ok_ltoRecS (env_nil PG)))))))) k_ltoWorld (by kernel_rfl)
theorem e_ltoWorld (n : Nat) (a0 : Int × Int × List (Int) × List (Int × Int) × List ((List (Int))) × List (Int) × Int × Int × Int × Int × Int × Int × Int × List (Int × Int) × Int × List (Int × Int × Int × Int × Int × Int) × List (Int × Int × (List (Int × Int × Int × Bool)) × Int × Bool × (List (Int × Int)) × (List (Int))) × List ((List (ByteArray × ByteArray × Int))) × List (Bool) × List (Int × Int × ByteArray) × List (Int × Int × Int × Int × Int × Int × Int) × List (Int × Int × Int × Int × Int × Int × Int × Bool × (List (Int × Int)) × (List (Int)) × Int × Int × (List (Int × Int)) × Int)) : f_ltoWorld n a0 =
  Option.bind (g_ltoHead (a0.2.1, a0.2.2.1, a0.2.2.2.1, a0.2.2.2.2.1, a0.2.2.2.2.2.1, a0.2.2.2.2.2.2.1, a0.2.2.2.2.2.2.2.1, a0.2.2.2.2.2.2.2.2.1, a0.2.2.2.2.2.2.2.2.2.1, a0.2.2.2.2.2.2.2.2.2.2.1, a0.2.2.2.2.2.2.2.2.2.2.2.1, a0.2.2.2.2.2.2.2.2.2.2.2.2.1, a0.2.2.2.2.2.2.2.2.2.2.2.2.2.1, a0.2.2.2.2.2.2.2.2.2.2.2.2.2.2.1, a0.2.2.2.2.2.2.2.2.2.2.2.2.2.2.2.1)) fun r0 =>
  Option.bind (g_ltoShardS a0.2.2.2.2.2.2.2.2.2.2.2.2.2.2.2.2.1) fun r1 =>
  Option.bind (g_ltoDiskS a0.2.2.2.2.2.2.2.2.2.2.2.2.2.2.2.2.2.1) fun r2 =>
  Option.bind (g_ltoBoolS a0.2.2.2.2.2.2.2.2.2.2.2.2.2.2.2.2.2.2.1) fun r3 =>
  Option.bind (g_ltoPacketS a0.2.2.2.2.2.2.2.2.2.2.2.2.2.2.2.2.2.2.2.1) fun r4 =>
  Option.bind (g_ltoCallS a0.2.2.2.2.2.2.2.2.2.2.2.2.2.2.2.2.2.2.2.2.1) fun r5 =>
  Option.bind (g_ltoRecS a0.2.2.2.2.2.2.2.2.2.2.2.2.2.2.2.2.2.2.2.2.2) fun r6 =>
  some ((a0.1, r0.1.1, r0.1.2.1, r0.1.2.2.1, r0.1.2.2.2.1, r0.1.2.2.2.2.1, r0.1.2.2.2.2.2.1, r0.1.2.2.2.2.2.2.1, r0.1.2.2.2.2.2.2.2.1, r0.1.2.2.2.2.2.2.2.2.1, r0.1.2.2.2.2.2.2.2.2.2.1, r0.1.2.2.2.2.2.2.2.2.2.2.1, r0.1.2.2.2.2.2.2.2.2.2.2.2.1, r0.1.2.2.2.2.2.2.2.2.2.2.2.2.1, r0.1.2.2.2.2.2.2.2.2.2.2.2.2.2.1, r0.1.2.2.2.2.2.2.2.2.2.2.2.2.2.2, r1.1, r2.1, r3.1, r4.1, r5.1, r6.1), ()) := by kernel_rfl
/- spec.GraphOf -/
def c_sGraphOf : TC :=
 (.seq (.rg [o1 1 (.a (.t 0)),
   ⟨false, [], [], .det 2 (.a (.c [.i .i64, .sl [.i .i64, .i .i64]] [.int .i64 (0), .slice none 0 0])), [2, 1000000001], (some 2), none⟩])
 (.seq (.rg [o1 5 (.idx .nil),
   o1 6 (.load 1 [] 0 (.t 5) 1 false),
   o1 7 (.build [.i .i64, .sl [.i .i64, .i .i64]] [(0, .t 6)]),
   ⟨false, [], [], .det 2 (.a (.c [.i .i64, .sl [.i .i64, .i .i64]] [.int .i64 (0), .slice none 0 0])), [3, 1000000001], (some 3), none⟩,
   o4 2 [3, 7] (.store 3 [] 0 .nil (.t 7))])
 (.seq (.join [⟨3, [.i .i64, .sl [.i .i64, .i .i64]], false⟩] 8589934360 none (.seq (.rg [o1 4 (.lit [.i .i64] [.int .i64 (0)])])
 (.block 0 (.loop [⟨3, [.i .i64, .sl [.i .i64, .i .i64]], false⟩, ⟨4, [.i .i64], false⟩] 8589934360
  (.seq (.seq (.rg [o1 8 (.copy 4),
    o1 9 (.idx .nil),
    o1 10 (.load 1 [] 1 (.t 9) 1 false),
    o1 11 (.len 10),
    o1 12 (.data (.bin .lss) [.t 8, .t 11])])
  (.cond (.t 12)
   .skip
   (.exit 0)))
  (.seq (.block 1 (.rg [o1 15 (.idx .nil),
    o1 16 (.load 3 [] 1 (.t 15) 1 true),
    o1 17 (.idx .nil),
    o1 18 (.load 1 [] 1 (.t 17) 1 false),
    o1 19 (.copy 4),
    o1 20 (.index 18 (.t 19)),
    o1 21 (.idx (.t 20)),
    o1 22 (.load 18 [(0, 4)] 0 (.t 21) 1 false),
    o1 23 (.idx .nil),
    o1 24 (.load 1 [] 1 (.t 23) 1 false),
    o1 25 (.copy 4),
    o1 26 (.index 24 (.t 25)),
    o1 27 (.idx (.t 26)),
    o1 28 (.load 24 [(0, 4)] 1 (.t 27) 1 false),
    o1 29 (.build [.i .i64, .i .i64] [(0, .t 22), (1, .t 28)]),
    o1 30 (.sli [.i .i64, .i .i64] [.t 29]),
    ⟨false, [16], [], .det 2 (.app (some 16) 30), [31, 16, 16, 3], (some 31), none⟩,
    o1 32 (.idx .nil),
    o4 2 [3, 31, 16] (.store 3 [] 1 (.t 32) (.t 31))]))
  (.rg [o1 13 (.copy 4),
    o1 14 (.data (.bin .add) [.t 13, .c (.int .i64 (1))]),
    o1 4 (.copy 14)])))))))
 (.seq (.rg [o1 33 (.load 3 [] 0 .nil 2 true),
   ⟨false, [33], [], .det 2 (.store 2 [] 0 .nil (.t 33)), [2, 33, 33, 3], none, none⟩])
 .ret))))
def s_sGraphOf : Sig := ⟨[.rd true [.d, .sl (.own none) [.d, .d, .d, .d]]], (.one true [.d, .sl (.own none) [.d, .d]])⟩
noncomputable def E_sGraphOf : TEnv := envOf []
noncomputable def f_sGraphOf (n : Nat) : (Int × List (Int × Int × Int × Bool)) → Option ((Int × List (Int × Int)) × Unit) := runFn n E_sGraphOf c_sGraphOf [[.i .i64, .sl [.i .i64, .i .i64, .i .i64, .b]]] [.i .i64, .sl [.i .i64, .i .i64]] [] [2] .no
noncomputable def g_sGraphOf := f_sGraphOf BIG
noncomputable def p_sGraphOf : TSp := ⟨s_sGraphOf, [[.i .i64, .sl [.i .i64, .i .i64, .i .i64, .b]]], [.i .i64, .sl [.i .i64, .i .i64]], [], Ou.j .no, g_sGraphOf⟩
theorem k_sGraphOf : chkW PG E_sGraphOf 243 s_sGraphOf (c_sGraphOf.ht 34) .no = some (c_sGraphOf.wc E_sGraphOf, [2]) := by kernel_rfl
theorem ok_sGraphOf : p_sGraphOf.Ok PG 243 := mkOk (env_nil PG) k_sGraphOf (by kernel_rfl)
theorem e_sGraphOf (n : Nat) (a0 : Int × List (Int × Int × Int × Bool)) : f_sGraphOf n a0 =
  Option.bind (loopT n (X := (Int × List (Int × Int)) × Int) (B := (Int × List (Int × Int))) (fun self1 x0 =>
    bif decide (x0.2 < (a0.2.length : Int)) then
     bnd a0.2.length x0.2 fun n2 =>
     Option.bind a0.2[n2]? fun y3 =>
     bnd a0.2.length x0.2 fun n4 =>
     Option.bind a0.2[n4]? fun y5 =>
     bif decide (x0.1.2.length + ([(y3.1, y5.2.1)]).length ≤ 4294967296) then
      self1 ((x0.1.1, x0.1.2 ++ ([(y3.1, y5.2.1)])), IntKind.wrap .i64 (x0.2 + (1 : Int)))
     else none
    else some x0.1) ((a0.1, []), (0 : Int)) : Option ((Int × List (Int × Int)))) fun x6 =>
  some (x6, ()) := by kernel_rfl
/- spec.Owned -/
def c_sOwned : TC :=
 (.seq (.rg [o1 1 (.a (.t 0)),
   o1 2 (.lit [.sl [.i .i64, .i .i64]] [.slice none 0 0])])
 (.seq (.rg [o1 3 (.sli [.i .i64, .i .i64] []),
   o1 4 (.idx .nil),
   o1 5 (.load 1 [] 1 (.t 4) 2 false),
   o3 6 243 [.t 5],
   ⟨false, [], [], .det 2 (.ext 6 1 1), [7, 6], (some 7), none⟩,
   ⟨false, [], [], .det 2 (.app (some 3) 7), [8, 3], (some 8), none⟩,
   ⟨false, [], [], .det 2 (.copy 8), [2, 8], (some 2), none⟩])
 .ret))
def s_sOwned : Sig := ⟨[.rd true [.d, .d, .sl (.own none) [.d, .d, .d, .d], .d, .d, .sl (.own none) [.d, .d], .sl (.own none) [.d]]], (.one false [.sl (.own none) [.d, .d]])⟩
noncomputable def E_sOwned : TEnv := envOf [(243, p_sGraphOf)]
noncomputable def f_sOwned (n : Nat) : (Int × Int × List (Int × Int × Int × Bool) × Int × Bool × List (Int × Int) × List (Int)) → Option ((List (Int × Int)) × Unit) := runFn n E_sOwned c_sOwned [[.i .i64, .i .i64, .sl [.i .i64, .i .i64, .i .i64, .b], .i .i64, .b, .sl [.i .i64, .i .i64], .sl [.i .i64]]] [.sl [.i .i64, .i .i64]] [] [2] .no
noncomputable def g_sOwned := f_sOwned BIG
noncomputable def p_sOwned : TSp := ⟨s_sOwned, [[.i .i64, .i .i64, .sl [.i .i64, .i .i64, .i .i64, .b], .i .i64, .b, .sl [.i .i64, .i .i64], .sl [.i .i64]]], [.sl [.i .i64, .i .i64]], [], Ou.j .no, g_sOwned⟩
theorem k_sOwned : chkW PG E_sOwned 202 s_sOwned (c_sOwned.ht 9) .no = some (c_sOwned.wc E_sOwned, [2]) := by kernel_rfl
theorem ok_sOwned : p_sOwned.Ok PG 202 := mkOk (env_cons ok_sGraphOf (env_nil PG)) k_sOwned (by kernel_rfl)
theorem e_sOwned (n : Nat) (a0 : Int × Int × List (Int × Int × Int × Bool) × Int × Bool × List (Int × Int) × List (Int)) : f_sOwned n a0 =
  Option.bind (g_sGraphOf (a0.2.1, a0.2.2.1)) fun r0 =>
  bif decide (0 + r0.1.2.length ≤ 4294967296) then
   some ([] ++ r0.1.2, ())
  else none := by kernel_rfl
/- spec.l01In -/
def c_sl01In : TC :=
 (.seq (.rg [o1 6 (.lit [.b] [.bool false])])
 (.seq (.join [⟨6, [.b], false⟩] 32704 none (.rg [o1 7 (.copy 0),
   o1 8 (.copy 1),
   o1 9 (.data (.bin .geq) [.t 7, .t 8]),
   o1 10 (.copy 9),
   o2 11 (.copy 0) 3 true,
   o2 12 (.copy 2) 3 true,
   o2 13 (.data (.bin .leq) [.t 11, .t 12]) 3 true,
   ⟨false, [], [], .pick 10 (.t 13) (.c (.bool false)), [14], (some 14), none⟩,
   o1 6 (.copy 14)]))
 .ret))
def s_sl01In : Sig := ⟨[.rd false [.d], .rd false [.d], .rd false [.d]], (.one false [.d])⟩
noncomputable def E_sl01In : TEnv := envOf []
noncomputable def f_sl01In (n : Nat) : Int × Int × Int → Option ((Bool) × Unit) := runFn n E_sl01In c_sl01In [[.i .i64], [.i .i64], [.i .i64]] [.b] [] [6] .no
noncomputable def g_sl01In := f_sl01In BIG
noncomputable def p_sl01In : TSp := ⟨s_sl01In, [[.i .i64], [.i .i64], [.i .i64]], [.b], [], Ou.j .no, g_sl01In⟩
theorem k_sl01In : chkW PG E_sl01In 98 s_sl01In (c_sl01In.ht 15) .no = some (c_sl01In.wc E_sl01In, [6]) := by kernel_rfl
theorem ok_sl01In : p_sl01In.Ok PG 98 := mkOk (env_nil PG) k_sl01In (by kernel_rfl)
theorem e_sl01In (n : Nat) (a0 : Int) (a1 : Int) (a2 : Int) : f_sl01In n (a0, a1, a2) =
  Option.bind (bif decide (a1 ≤ a0) then
    some (decide (a0 ≤ a2))
   else some false : Option (Bool)) fun x0 =>
  some (x0, ()) := by kernel_rfl
/- spec.Inside -/
def c_sInside : TC :=
 (.seq (.rg [o1 6 (.lit [.sl [.i .i64, .i .i64]] [.slice none 0 0])])
 (.seq (.rg [o1 10 (.sli [.i .i64, .i .i64] []),
   ⟨false, [], [], .det 2 (.copy 10), [7, 10], (some 7), none⟩])
 (.seq (.join [⟨7, [.sl [.i .i64, .i .i64]], false⟩] 144115188075854720 none (.seq (.rg [o1 8 (.lit [.i .i64] [.int .i64 (0)])])
 (.block 0 (.loop [⟨7, [.sl [.i .i64, .i .i64]], false⟩, ⟨8, [.i .i64], false⟩] 144115188075854720
  (.seq (.seq (.rg [o1 11 (.copy 8),
    o1 12 (.copy 1),
    o1 13 (.len 12),
    o1 14 (.data (.bin .lss) [.t 11, .t 13])])
  (.cond (.t 14)
   .skip
   (.exit 0)))
  (.seq (.join [⟨7, [.sl [.i .i64, .i .i64]], false⟩] 144115188075725440 none (.block 1 (.seq (.rg [o1 17 (.copy 1),
    o1 18 (.copy 8),
    o1 19 (.index 17 (.t 18)),
    o1 20 (.load 17 [(0, 2)] 0 (.t 19) 2 false),
    ⟨false, [], [], .det 2 (.a (.c [.i .i64, .i .i64] [.int .i64 (0), .int .i64 (0)])), [9, 1000000001], (some 9), none⟩,
    o4 1 [9] (.store 9 [] 0 .nil (.t 20))])
  (.seq (.join [⟨52, [.b], false⟩] 9007199252643840 none (.rg [o1 21 (.idx .nil),
    o1 22 (.load 9 [] 0 (.t 21) 1 false),
    o1 23 (.copy 0),
    o1 24 (.len 23),
    o1 25 (.data (.bin .sub) [.t 24, .c (.int .i64 (1))]),
    o3 26 98 [.t 22, .c [.i .i64] [.int .i64 (0)], .t 25],
    o1 27 (.copy 26),
    o2 28 (.idx .nil) 6 true,
    o2 29 (.load 9 [] 1 (.t 28) 1 false) 6 true,
    o2 30 (.copy 0) 6 true,
    o2 31 (.len 30) 6 true,
    o2 32 (.data (.bin .sub) [.t 31, .c (.int .i64 (1))]) 6 true,
    ⟨false, [], [], .call 1 98 [.t 29, .c [.i .i64] [.int .i64 (0)], .t 32] .no, [33], (some 33), some (6, true)⟩,
    ⟨false, [], [], .pick 27 (.t 33) (.c (.bool false)), [34], (some 34), none⟩,
    o1 35 (.copy 34),
    o2 36 (.copy 0) 14 true,
    o2 37 (.idx .nil) 14 true,
    o2 38 (.load 9 [] 0 (.t 37) 1 false) 14 true,
    o2 39 (.index 36 (.t 38)) 14 true,
    o2 40 (.load 36 [(0, 1)] 0 (.t 39) 1 false) 14 true,
    o2 41 (.copy 2) 14 true,
    o2 42 (.data (.bin .eql) [.t 40, .t 41]) 14 true,
    ⟨false, [], [], .pick 35 (.t 42) (.c (.bool false)), [43], (some 43), none⟩,
    o1 44 (.copy 43),
    o2 45 (.copy 0) 23 true,
    o2 46 (.idx .nil) 23 true,
    o2 47 (.load 9 [] 1 (.t 46) 1 false) 23 true,
    o2 48 (.index 45 (.t 47)) 23 true,
    o2 49 (.load 45 [(0, 1)] 0 (.t 48) 1 false) 23 true,
    o2 50 (.copy 2) 23 true,
    o2 51 (.data (.bin .eql) [.t 49, .t 50]) 23 true,
    ⟨false, [], [], .pick 44 (.t 51) (.c (.bool false)), [52], (some 52), none⟩]))
  (.cond (.t 52)
   (.rg [⟨false, [], [], .det 2 (.copy 7), [53, 7], (some 53), none⟩,
     o1 54 (.load 9 [] 0 .nil 2 false),
     o1 55 (.sli [.i .i64, .i .i64] [.t 54]),
     ⟨false, [], [], .det 2 (.app (some 53) 55), [56, 53], (some 56), none⟩,
     ⟨false, [], [], .det 2 (.copy 56), [7, 56], (some 7), none⟩])
   .skip)))))
  (.rg [o1 15 (.copy 8),
    o1 16 (.data (.bin .add) [.t 15, .c (.int .i64 (1))]),
    o1 8 (.copy 16)])))))))
 (.seq (.rg [⟨false, [], [], .det 2 (.copy 7), [57, 7], (some 57), none⟩,
   ⟨false, [], [], .det 2 (.copy 57), [6, 57], (some 6), none⟩])
 .ret))))
def s_sInside : Sig := ⟨[.rd false [.sl (.own none) [.d]], .rd false [.sl (.own none) [.d, .d]], .rd false [.d]], (.one false [.sl (.own none) [.d, .d]])⟩
noncomputable def E_sInside : TEnv := envOf [(98, p_sl01In)]
noncomputable def f_sInside (n : Nat) : List (Int) × (List (Int × Int)) × Int → Option ((List (Int × Int)) × Unit) := runFn n E_sInside c_sInside [[.sl [.i .i64]], [.sl [.i .i64, .i .i64]], [.i .i64]] [.sl [.i .i64, .i .i64]] [] [6] .no
noncomputable def g_sInside := f_sInside BIG
noncomputable def p_sInside : TSp := ⟨s_sInside, [[.sl [.i .i64]], [.sl [.i .i64, .i .i64]], [.i .i64]], [.sl [.i .i64, .i .i64]], [], Ou.j .no, g_sInside⟩
theorem k_sInside : chkW PG E_sInside 20 s_sInside (c_sInside.ht 58) .no = some (c_sInside.wc E_sInside, [6]) := by kernel_rfl
theorem ok_sInside : p_sInside.Ok PG 20 := mkOk (env_cons ok_sl01In (env_nil PG)) k_sInside (by kernel_rfl)
theorem e_sInside (n : Nat) (a0 : List (Int)) (a1 : List (Int × Int)) (a2 : Int) : f_sInside n (a0, a1, a2) =
  Option.bind (loopT n (X := (List (Int × Int)) × Int) (B := (List (Int × Int))) (fun self1 x0 =>
    bif decide (x0.2 < (a1.length : Int)) then
     Option.bind (bnd a1.length x0.2 fun n2 =>
      Option.bind a1[n2]? fun y3 =>
      Option.bind (Option.bind (g_sl01In (y3.1, (0 : Int), IntKind.wrap .i64 ((a0.length : Int) - (1 : Int)))) fun r4 =>
       bif r4.1 then
        Option.bind (g_sl01In (y3.2, (0 : Int), IntKind.wrap .i64 ((a0.length : Int) - (1 : Int)))) fun r5 =>
        bif r5.1 then
         bnd a0.length y3.1 fun n6 =>
         Option.bind a0[n6]? fun y7 =>
         bif decide (y7 = a2) then
          bnd a0.length y3.2 fun n8 =>
          Option.bind a0[n8]? fun y9 =>
          some (decide (y9 = a2))
         else some false
        else some false
       else some false : Option (Bool)) fun x10 =>
      bif x10 then
       bif decide (x0.1.length + [y3].length ≤ 4294967296) then
        some (x0.1 ++ [y3])
       else none
      else some x0.1 : Option ((List (Int × Int)))) fun x11 =>
     self1 (x11, IntKind.wrap .i64 (x0.2 + (1 : Int)))
    else some x0.1) ([], (0 : Int)) : Option ((List (Int × Int)))) fun x12 =>
  some (x12, ()) := by kernel_rfl
/- spec.l05Has -/
def c_sl05Has : TC :=
 (.seq (.rg [o1 3 (.a (.t 1)),
   o1 4 (.lit [.b] [.bool false])])
 (.seq (.join [] 262128 (some [⟨4, [.b], false⟩]) (.seq (.rg [o1 5 (.lit [.i .i64] [.int .i64 (0)])])
 (.block 0 (.loop [⟨5, [.i .i64], false⟩] 262128
  (.seq (.seq (.rg [o1 6 (.copy 5),
    o1 7 (.copy 0),
    o1 8 (.len 7),
    o1 9 (.data (.bin .lss) [.t 6, .t 8])])
  (.cond (.t 9)
   .skip
   (.exit 0)))
  (.seq (.block 1 (.seq (.rg [o1 12 (.copy 0),
    o1 13 (.copy 5),
    o1 14 (.index 12 (.t 13)),
    o1 15 (.load 12 [(0, 2)] 0 (.t 14) 2 false),
    o1 16 (.load 3 [] 0 .nil 2 false),
    o1 17 (.eqA [.i, .i] (.t 15) (.t 16) false)])
  (.cond (.t 17)
   (.seq (.rg [o1 4 (.lit [.b] [.bool true])])
   .ret)
   .skip)))
  (.rg [o1 10 (.copy 5),
    o1 11 (.data (.bin .add) [.t 10, .c (.int .i64 (1))]),
    o1 5 (.copy 11)])))))))
 (.seq (.rg [o1 4 (.lit [.b] [.bool false])])
 .ret)))
def s_sl05Has : Sig := ⟨[.rd false [.sl (.own none) [.d, .d]], .rd true [.d, .d]], (.one false [.d])⟩
noncomputable def E_sl05Has : TEnv := envOf []
noncomputable def f_sl05Has (n : Nat) : (List (Int × Int)) × (Int × Int) → Option ((Bool) × Unit) := runFn n E_sl05Has c_sl05Has [[.sl [.i .i64, .i .i64]], [.i .i64, .i .i64]] [.b] [] [4] .no
noncomputable def g_sl05Has := f_sl05Has BIG
noncomputable def p_sl05Has : TSp := ⟨s_sl05Has, [[.sl [.i .i64, .i .i64]], [.i .i64, .i .i64]], [.b], [], Ou.j .no, g_sl05Has⟩
theorem k_sl05Has : chkW PG E_sl05Has 112 s_sl05Has (c_sl05Has.ht 18) .no = some (c_sl05Has.wc E_sl05Has, [4]) := by kernel_rfl
theorem ok_sl05Has : p_sl05Has.Ok PG 112 := mkOk (env_nil PG) k_sl05Has (by kernel_rfl)
theorem e_sl05Has (n : Nat) (a0 : List (Int × Int)) (a1 : Int × Int) : f_sl05Has n (a0, a1) =
  Option.bind (loopT n (X := Int) (B := (Unit) ⊕ (Bool)) (fun self1 x0 =>
    bif decide (x0 < (a0.length : Int)) then
     bnd a0.length x0 fun n2 =>
     Option.bind a0[n2]? fun y3 =>
     bif (decide (y3.1 = a1.1) && (decide (y3.2 = a1.2) && true)) then
      some (Sum.inr true)
     else self1 (IntKind.wrap .i64 (x0 + (1 : Int)))
    else some (Sum.inl ())) (0 : Int) : Option ((Unit) ⊕ (Bool))) fun y => match y with
  | .inl x4 =>
   some (false, ())
  | .inr x4 =>
   some (x4, ()) := by kernel_rfl
/- spec.l05Less -/
def c_sl05Less : TC :=
 (.seq (.rg [o1 2 (.a (.t 0)),
   o1 3 (.a (.t 1)),
   o1 4 (.lit [.b] [.bool false])])
 (.seq (.join [⟨4, [.b], false⟩] 16777200 none (.rg [o1 5 (.idx .nil),
   o1 6 (.load 2 [] 0 (.t 5) 1 false),
   o1 7 (.idx .nil),
   o1 8 (.load 3 [] 0 (.t 7) 1 false),
   o1 9 (.data (.bin .lss) [.t 6, .t 8]),
   o1 10 (.copy 9),
   o2 11 (.idx .nil) 5 false,
   o2 12 (.load 2 [] 0 (.t 11) 1 false) 5 false,
   o2 13 (.idx .nil) 5 false,
   o2 14 (.load 3 [] 0 (.t 13) 1 false) 5 false,
   o2 15 (.data (.bin .eql) [.t 12, .t 14]) 5 false,
   o2 16 (.copy 15) 5 false,
   o2 17 (.idx .nil) 11 true,
   o2 18 (.load 2 [] 1 (.t 17) 1 false) 11 true,
   o2 19 (.idx .nil) 11 true,
   o2 20 (.load 3 [] 1 (.t 19) 1 false) 11 true,
   o2 21 (.data (.bin .lss) [.t 18, .t 20]) 11 true,
   ⟨false, [], [], .pick 16 (.t 21) (.c (.bool false)), [22], (some 22), some (5, false)⟩,
   ⟨false, [], [], .pick 10 (.c (.bool true)) (.t 22), [23], (some 23), none⟩,
   o1 4 (.copy 23)]))
 .ret))
def s_sl05Less : Sig := ⟨[.rd true [.d, .d], .rd true [.d, .d]], (.one false [.d])⟩
noncomputable def E_sl05Less : TEnv := envOf []
noncomputable def f_sl05Less (n : Nat) : (Int × Int) × (Int × Int) → Option ((Bool) × Unit) := runFn n E_sl05Less c_sl05Less [[.i .i64, .i .i64], [.i .i64, .i .i64]] [.b] [] [4] .no
noncomputable def g_sl05Less := f_sl05Less BIG
noncomputable def p_sl05Less : TSp := ⟨s_sl05Less, [[.i .i64, .i .i64], [.i .i64, .i .i64]], [.b], [], Ou.j .no, g_sl05Less⟩
theorem k_sl05Less : chkW PG E_sl05Less 305 s_sl05Less (c_sl05Less.ht 24) .no = some (c_sl05Less.wc E_sl05Less, [4]) := by kernel_rfl
theorem ok_sl05Less : p_sl05Less.Ok PG 305 := mkOk (env_nil PG) k_sl05Less (by kernel_rfl)
theorem e_sl05Less (n : Nat) (a0 : Int × Int) (a1 : Int × Int) : f_sl05Less n (a0, a1) =
  Option.bind (bif decide (a0.1 < a1.1) then
    some true
   else bif decide (a0.1 = a1.1) then
    some (decide (a0.2 < a1.2))
   else some false : Option (Bool)) fun x0 =>
  some (x0, ()) := by kernel_rfl
/- spec.l05Put -/
def c_sl05Put : TC :=
 (.seq (.rg [o1 3 (.a (.t 1)),
   o1 4 (.lit [.sl [.i .i64, .i .i64]] [.slice none 0 0])])
 (.seq (.rg [o1 8 (.sli [.i .i64, .i .i64] []),
   ⟨false, [], [], .det 2 (.copy 8), [5, 8], (some 5), none⟩])
 (.seq (.join [⟨5, [.sl [.i .i64, .i .i64]], false⟩] 268435040 none (.seq (.rg [o1 6 (.lit [.i .i64] [.int .i64 (0)])])
 (.block 0 (.loop [⟨5, [.sl [.i .i64, .i .i64]], false⟩, ⟨6, [.i .i64], false⟩] 268435040
  (.seq (.seq (.rg [o1 9 (.copy 6),
    o1 10 (.copy 0),
    o1 11 (.len 10),
    o1 12 (.data (.bin .lss) [.t 9, .t 11])])
  (.cond (.t 12)
   .skip
   (.exit 0)))
  (.seq (.join [⟨5, [.sl [.i .i64, .i .i64]], false⟩] 268402720 none (.block 1 (.seq (.rg [o1 15 (.copy 0),
    o1 16 (.copy 6),
    o1 17 (.index 15 (.t 16)),
    o1 18 (.load 15 [(0, 2)] 0 (.t 17) 2 false),
    o1 19 (.load 3 [] 0 .nil 2 false),
    o3 20 305 [.t 18, .t 19]])
  (.cond (.t 20)
   (.rg [⟨false, [], [], .det 2 (.copy 5), [21, 5], (some 21), none⟩,
     o1 22 (.copy 0),
     o1 23 (.copy 6),
     o1 24 (.index 22 (.t 23)),
     o1 25 (.load 22 [(0, 2)] 0 (.t 24) 2 false),
     o1 26 (.sli [.i .i64, .i .i64] [.t 25]),
     ⟨false, [], [], .det 2 (.app (some 21) 26), [27, 21], (some 27), none⟩,
     ⟨false, [], [], .det 2 (.copy 27), [5, 27], (some 5), none⟩])
   .skip))))
  (.rg [o1 13 (.copy 6),
    o1 14 (.data (.bin .add) [.t 13, .c (.int .i64 (1))]),
    o1 6 (.copy 14)])))))))
 (.seq (.rg [⟨false, [], [], .det 2 (.copy 5), [28, 5], (some 28), none⟩,
   o1 29 (.load 3 [] 0 .nil 2 false),
   o1 30 (.sli [.i .i64, .i .i64] [.t 29]),
   ⟨false, [], [], .det 2 (.app (some 28) 30), [31, 28], (some 31), none⟩,
   ⟨false, [], [], .det 2 (.copy 31), [5, 31], (some 5), none⟩])
 (.seq (.join [⟨5, [.sl [.i .i64, .i .i64]], false⟩] 2251795518718112 none (.seq (.rg [o1 7 (.lit [.i .i64] [.int .i64 (0)])])
 (.block 2 (.loop [⟨5, [.sl [.i .i64, .i .i64]], false⟩, ⟨7, [.i .i64], false⟩] 2251795518718112
  (.seq (.seq (.rg [o1 32 (.copy 7),
    o1 33 (.copy 0),
    o1 34 (.len 33),
    o1 35 (.data (.bin .lss) [.t 32, .t 34])])
  (.cond (.t 35)
   .skip
   (.exit 2)))
  (.seq (.join [⟨5, [.sl [.i .i64, .i .i64]], false⟩] 2251524935778336 none (.block 3 (.seq (.rg [o1 38 (.load 3 [] 0 .nil 2 false),
    o1 39 (.copy 0),
    o1 40 (.copy 7),
    o1 41 (.index 39 (.t 40)),
    o1 42 (.load 39 [(0, 2)] 0 (.t 41) 2 false),
    o3 43 305 [.t 38, .t 42]])
  (.cond (.t 43)
   (.rg [⟨false, [], [], .det 2 (.copy 5), [44, 5], (some 44), none⟩,
     o1 45 (.copy 0),
     o1 46 (.copy 7),
     o1 47 (.index 45 (.t 46)),
     o1 48 (.load 45 [(0, 2)] 0 (.t 47) 2 false),
     o1 49 (.sli [.i .i64, .i .i64] [.t 48]),
     ⟨false, [], [], .det 2 (.app (some 44) 49), [50, 44], (some 50), none⟩,
     ⟨false, [], [], .det 2 (.copy 50), [5, 50], (some 5), none⟩])
   .skip))))
  (.rg [o1 36 (.copy 7),
    o1 37 (.data (.bin .add) [.t 36, .c (.int .i64 (1))]),
    o1 7 (.copy 37)])))))))
 (.seq (.rg [⟨false, [], [], .det 2 (.copy 5), [51, 5], (some 51), none⟩,
   ⟨false, [], [], .det 2 (.copy 51), [4, 51], (some 4), none⟩])
 .ret))))))
def s_sl05Put : Sig := ⟨[.rd false [.sl (.own none) [.d, .d]], .rd true [.d, .d]], (.one false [.sl (.own none) [.d, .d]])⟩
noncomputable def E_sl05Put : TEnv := envOf [(305, p_sl05Less)]
noncomputable def f_sl05Put (n : Nat) : (List (Int × Int)) × (Int × Int) → Option ((List (Int × Int)) × Unit) := runFn n E_sl05Put c_sl05Put [[.sl [.i .i64, .i .i64]], [.i .i64, .i .i64]] [.sl [.i .i64, .i .i64]] [] [4] .no
noncomputable def g_sl05Put := f_sl05Put BIG
noncomputable def p_sl05Put : TSp := ⟨s_sl05Put, [[.sl [.i .i64, .i .i64]], [.i .i64, .i .i64]], [.sl [.i .i64, .i .i64]], [], Ou.j .no, g_sl05Put⟩
theorem k_sl05Put : chkW PG E_sl05Put 231 s_sl05Put (c_sl05Put.ht 52) .no = some (c_sl05Put.wc E_sl05Put, [4]) := by kernel_rfl
theorem ok_sl05Put : p_sl05Put.Ok PG 231 := mkOk (env_cons ok_sl05Less (env_nil PG)) k_sl05Put (by kernel_rfl)
theorem e_sl05Put (n : Nat) (a0 : List (Int × Int)) (a1 : Int × Int) : f_sl05Put n (a0, a1) =
  Option.bind (loopT n (X := (List (Int × Int)) × Int) (B := (List (Int × Int))) (fun self1 x0 =>
    bif decide (x0.2 < (a0.length : Int)) then
     Option.bind (bnd a0.length x0.2 fun n2 =>
      Option.bind a0[n2]? fun y3 =>
      Option.bind (g_sl05Less (y3, a1)) fun r4 =>
      bif r4.1 then
       bnd a0.length x0.2 fun n5 =>
       Option.bind a0[n5]? fun y6 =>
       bif decide (x0.1.length + [y6].length ≤ 4294967296) then
        some (x0.1 ++ [y6])
       else none
      else some x0.1 : Option ((List (Int × Int)))) fun x7 =>
     self1 (x7, IntKind.wrap .i64 (x0.2 + (1 : Int)))
    else some x0.1) ([], (0 : Int)) : Option ((List (Int × Int)))) fun x8 =>
  bif decide (x8.length + [a1].length ≤ 4294967296) then
   Option.bind (loopT n (X := (List (Int × Int)) × Int) (B := (List (Int × Int))) (fun self10 x9 =>
     bif decide (x9.2 < (a0.length : Int)) then
      Option.bind (bnd a0.length x9.2 fun n11 =>
       Option.bind a0[n11]? fun y12 =>
       Option.bind (g_sl05Less (a1, y12)) fun r13 =>
       bif r13.1 then
        bnd a0.length x9.2 fun n14 =>
        Option.bind a0[n14]? fun y15 =>
        bif decide (x9.1.length + [y15].length ≤ 4294967296) then
         some (x9.1 ++ [y15])
        else none
       else some x9.1 : Option ((List (Int × Int)))) fun x16 =>
      self10 (x16, IntKind.wrap .i64 (x9.2 + (1 : Int)))
     else some x9.1) (x8 ++ [a1], (0 : Int)) : Option ((List (Int × Int)))) fun x17 =>
   some (x17, ())
  else none := by kernel_rfl
/- spec.WholeEdges -/
def c_sWholeEdges : TC :=
 (.seq (.rg [o1 4 (.lit [.sl [.i .i64, .i .i64]] [.slice none 0 0]),
   o1 5 (.lit [.b] [.bool false])])
 (.seq (.rg [o1 10 (.sli [.i .i64, .i .i64] []),
   ⟨false, [], [], .det 2 (.copy 10), [6, 10], (some 6), none⟩])
 (.seq (.rg [o1 11 (.sli [.i .i64, .i .i64] []),
   o1 12 (.copy 1),
   ⟨false, [], [], .det 2 (.app (some 11) 12), [13, 11], (some 13), none⟩,
   ⟨false, [], [], .det 2 (.copy 13), [7, 13], (some 7), none⟩])
 (.seq (.join [⟨7, [.sl [.i .i64, .i .i64]], false⟩] 67092864 none (.seq (.rg [o1 8 (.lit [.i .i64] [.int .i64 (0)])])
 (.block 0 (.loop [⟨7, [.sl [.i .i64, .i .i64]], false⟩, ⟨8, [.i .i64], false⟩] 67092864
  (.seq (.seq (.rg [o1 14 (.copy 8),
    o1 15 (.copy 0),
    o1 16 (.len 15),
    o1 17 (.data (.bin .lss) [.t 14, .t 16])])
  (.cond (.t 17)
   .skip
   (.exit 0)))
  (.seq (.block 1 (.rg [⟨false, [], [], .det 2 (.copy 7), [20, 7], (some 20), none⟩,
    o1 21 (.copy 0),
    o1 22 (.copy 8),
    o1 23 (.index 21 (.t 22)),
    o1 24 (.load 21 [(0, 1)] 0 (.t 23) 1 false),
    ⟨false, [], [], .det 2 (.app (some 20) 24), [25, 20], (some 25), none⟩,
    ⟨false, [], [], .det 2 (.copy 25), [7, 25], (some 7), none⟩]))
  (.rg [o1 18 (.copy 8),
    o1 19 (.data (.bin .add) [.t 18, .c (.int .i64 (1))]),
    o1 8 (.copy 19)])))))))
 (.seq (.join [⟨6, [.sl [.i .i64, .i .i64]], false⟩] 35184304980592 (some [⟨4, [.sl [.i .i64, .i .i64]], false⟩, ⟨5, [.b], false⟩]) (.seq (.rg [o1 9 (.lit [.i .i64] [.int .i64 (0)])])
 (.block 2 (.loop [⟨6, [.sl [.i .i64, .i .i64]], false⟩, ⟨9, [.i .i64], false⟩] 35184304980592
  (.seq (.seq (.rg [o1 26 (.copy 9),
    ⟨true, [], [], .det 1 (.copy 7), [27], (some 27), none⟩,
    o1 28 (.len 27),
    o1 29 (.data (.bin .lss) [.t 26, .t 28])])
  (.cond (.t 29)
   .skip
   (.exit 2)))
  (.seq (.block 3 (.seq (.seq (.rg [⟨true, [], [], .det 1 (.copy 6), [32], (some 32), none⟩,
    ⟨true, [], [], .det 1 (.copy 7), [33], (some 33), none⟩,
    o1 34 (.copy 9),
    o1 35 (.index 33 (.t 34)),
    o1 36 (.load 7 [(0, 2)] 0 (.t 35) 2 false),
    o3 37 112 [.t 32, .t 36]])
  (.cond (.t 37)
   (.seq (.rg [o1 38 (.sli [.i .i64, .i .i64] []),
     ⟨false, [], [], .det 2 (.copy 38), [4, 38], (some 4), none⟩,
     o1 5 (.lit [.b] [.bool false])])
   .ret)
   .skip))
  (.rg [⟨false, [], [], .det 2 (.copy 6), [39, 6, 32], (some 39), none⟩,
    ⟨true, [], [], .det 1 (.copy 7), [40], (some 40), none⟩,
    o1 41 (.copy 9),
    o1 42 (.index 40 (.t 41)),
    o1 43 (.load 7 [(0, 2)] 0 (.t 42) 2 false),
    o3 44 231 [.t 39, .t 43],
    ⟨false, [], [], .det 2 (.copy 44), [6, 44, 32], (some 6), none⟩])))
  (.rg [o1 30 (.copy 9),
    o1 31 (.data (.bin .add) [.t 30, .c (.int .i64 (1))]),
    o1 9 (.copy 31)])))))))
 (.seq (.rg [⟨false, [], [], .det 2 (.copy 6), [45, 6], (some 45), none⟩,
   ⟨false, [], [], .det 2 (.copy 45), [4, 45], (some 4), none⟩,
   o1 5 (.lit [.b] [.bool true])])
 .ret))))))
def s_sWholeEdges : Sig := ⟨[.rd false [.sl (.own none) [.sl (.own none) [.d, .d]]], .rd false [.sl (.own none) [.d, .d]]], (.tup [(false, 1), (false, 1)] [.sl (.own none) [.d, .d], .d])⟩
noncomputable def E_sWholeEdges : TEnv := envOf [(112, p_sl05Has), (231, p_sl05Put)]
noncomputable def f_sWholeEdges (n : Nat) : (List (List (Int × Int))) × (List (Int × Int)) → Option ((List (Int × Int) × Bool) × Unit) := runFn n E_sWholeEdges c_sWholeEdges [[.sl [.sl [.i .i64, .i .i64]]], [.sl [.i .i64, .i .i64]]] [.sl [.i .i64, .i .i64], .b] [] [4, 5] .no
noncomputable def g_sWholeEdges := f_sWholeEdges BIG
noncomputable def p_sWholeEdges : TSp := ⟨s_sWholeEdges, [[.sl [.sl [.i .i64, .i .i64]]], [.sl [.i .i64, .i .i64]]], [.sl [.i .i64, .i .i64], .b], [], Ou.j .no, g_sWholeEdges⟩
theorem k_sWholeEdges : chkW PG E_sWholeEdges 203 s_sWholeEdges (c_sWholeEdges.ht 46) .no = some (c_sWholeEdges.wc E_sWholeEdges, [4, 5]) := by kernel_rfl
theorem ok_sWholeEdges : p_sWholeEdges.Ok PG 203 := mkOk (env_cons ok_sl05Has (env_cons ok_sl05Put (env_nil PG))) k_sWholeEdges (by kernel_rfl)
theorem e_sWholeEdges (n : Nat) (a0 : List ((List (Int × Int)))) (a1 : List (Int × Int)) : f_sWholeEdges n (a0, a1) =
  bif decide (0 + a1.length ≤ 4294967296) then
   Option.bind (loopT n (X := (List (Int × Int)) × Int) (B := (List (Int × Int))) (fun self1 x0 =>
     bif decide (x0.2 < (a0.length : Int)) then
      bnd a0.length x0.2 fun n2 =>
      Option.bind a0[n2]? fun y3 =>
      bif decide (x0.1.length + y3.length ≤ 4294967296) then
       self1 (x0.1 ++ y3, IntKind.wrap .i64 (x0.2 + (1 : Int)))
      else none
     else some x0.1) ([] ++ a1, (0 : Int)) : Option ((List (Int × Int)))) fun x4 =>
   Option.bind (loopT n (X := (List (Int × Int)) × Int) (B := ((List (Int × Int))) ⊕ ((List (Int × Int)) × Bool)) (fun self6 x5 =>
     bif decide (x5.2 < (x4.length : Int)) then
      bnd x4.length x5.2 fun n7 =>
      Option.bind x4[n7]? fun y8 =>
      Option.bind (g_sl05Has (x5.1, y8)) fun r9 =>
      bif r9.1 then
       some (Sum.inr ([], false))
      else bnd x4.length x5.2 fun n10 =>
      Option.bind x4[n10]? fun y11 =>
      Option.bind (g_sl05Put (x5.1, y11)) fun r12 =>
      self6 (r12.1, IntKind.wrap .i64 (x5.2 + (1 : Int)))
     else some (Sum.inl x5.1)) ([], (0 : Int)) : Option (((List (Int × Int))) ⊕ ((List (Int × Int)) × Bool))) fun y => match y with
   | .inl x13 =>
    some ((x13, true), ())
   | .inr x13 =>
    some (x13, ())
  else none := by kernel_rfl
/- spec.Once -/
def c_sOnce : TC :=
 (.seq (.rg [o1 1 (.a (.t 0)),
   o1 2 (.lit [.b] [.bool false])])
 (.seq (.rg [o1 8 (.sli [.sl [.i .i64, .i .i64]] []),
   ⟨false, [8], [], .det 2 (.copy 8), [3, 8, 8], (some 3), none⟩])
 (.seq (.join [⟨3, [.sl [.sl [.i .i64, .i .i64]]], false⟩] 35184372088380 (some [⟨2, [.b], false⟩]) (.seq (.rg [o1 4 (.lit [.i .i64] [.int .i64 (0)])])
 (.block 0 (.loop [⟨3, [.sl [.sl [.i .i64, .i .i64]]], false⟩, ⟨4, [.i .i64], false⟩] 35184372088380
  (.seq (.seq (.rg [o1 9 (.copy 4),
    o1 10 (.idx .nil),
    o1 11 (.load 1 [] 16 (.t 10) 1 false),
    o1 12 (.len 11),
    o1 13 (.data (.bin .lss) [.t 9, .t 12])])
  (.cond (.t 13)
   .skip
   (.exit 0)))
  (.seq (.join [⟨3, [.sl [.sl [.i .i64, .i .i64]]], false⟩] 35184372023340 (some [⟨2, [.b], false⟩]) (.block 1 (.seq (.rg [o1 16 (.idx .nil),
    o1 17 (.load 1 [] 16 (.t 16) 1 false),
    o1 18 (.copy 4),
    o1 19 (.index 17 (.t 18)),
    o1 20 (.load 17 [(0, 7)] 0 (.t 19) 7 false),
    o3 21 202 [.t 20],
    ⟨false, [], [], .det 2 (.copy 21), [5, 21], (some 5), none⟩])
  (.seq (.rg [⟨false, [], [], .det 2 (.copy 3), [22, 3], (some 22), none⟩,
    ⟨true, [5], [], .det 1 (.copy 5), [23, 5], (some 23), none⟩,
    o1 24 (.sli [.sl [.i .i64, .i .i64]] [.t 23]),
    ⟨false, [], [], .det 2 (.app (some 22) 24), [25, 22], (some 25), none⟩,
    ⟨false, [], [], .det 2 (.copy 25), [3, 25], (some 3), none⟩])
  (.seq (.join [⟨44, [.b], false⟩] 35184304979968 none (.rg [o1 26 (.idx .nil),
    o1 27 (.idx (.t 26)),
    o1 28 (.idx (.t 27)),
    o1 29 (.idx (.t 28)),
    o1 30 (.load 1 [] 7 (.t 29) 1 false),
    o1 31 (.data (.bin .neq) [.t 30, .c (.int .i64 (4))]),
    o1 32 (.copy 31),
    o2 33 (.idx .nil) 6 true,
    o2 34 (.idx (.t 33)) 6 true,
    o2 35 (.load 1 [] 2 (.t 34) 1 false) 6 true,
    o2 36 (.copy 5) 6 true,
    o2 37 (.copy 4) 6 true,
    o2 38 (.data (.bin .add) [.t 37, .c (.int .i64 (1))]) 6 true,
    ⟨false, [], [], .call 1 20 [.t 35, .t 36, .t 38] .no, [39], (some 39), some (6, true)⟩,
    o2 40 (.len 39) 6 true,
    o2 41 (.copy 5) 6 true,
    o2 42 (.len 41) 6 true,
    o2 43 (.data (.bin .neq) [.t 40, .t 42]) 6 true,
    ⟨false, [], [], .pick 32 (.t 43) (.c (.bool false)), [44], (some 44), none⟩]))
  (.cond (.t 44)
   (.seq (.rg [o1 2 (.lit [.b] [.bool false])])
   .ret)
   .skip))))))
  (.rg [o1 14 (.copy 4),
    o1 15 (.data (.bin .add) [.t 14, .c (.int .i64 (1))]),
    o1 4 (.copy 15)])))))))
 (.seq (.rg [⟨false, [], [], .det 2 (.copy 3), [46, 3], (some 46), none⟩,
   o1 47 (.idx .nil),
   o1 48 (.idx (.t 47)),
   o1 49 (.load 1 [] 3 (.t 48) 1 false),
   o3 50 203 [.t 46, .t 49],
   ⟨false, [], [], .det 2 (.copy 50), [45, 50], (some 45), none⟩,
   ⟨false, [], [], .det 2 (.ext 45 0 1), [51, 45], (some 51), none⟩,
   o1 52 (.ext 45 1 1),
   ⟨false, [], [], .det 2 (.copy 51), [6, 51], (some 6), none⟩,
   o1 7 (.copy 52)])
 (.seq (.rg [o1 53 (.copy 7),
   o1 2 (.copy 53)])
 .ret)))))
def s_sOnce : Sig := ⟨[.rd true [.d, .d, .sl (.own none) [.d], .sl (.own none) [.d, .d], .sl (.own none) [.sl (.own none) [.d]], .sl (.own none) [.d], .d, .d, .d, .d, .d, .d, .d, .sl (.own none) [.d, .d], .d, .sl (.own none) [.d, .d, .d, .d, .d, .d], .sl (.own none) [.d, .d, .sl (.own none) [.d, .d, .d, .d], .d, .d, .sl (.own none) [.d, .d], .sl (.own none) [.d]], .sl (.own none) [.sl (.own none) [.d, .d, .d]], .sl (.own none) [.d], .sl (.own none) [.d, .d, .d], .sl (.own none) [.d, .d, .d, .d, .d, .d, .d], .sl (.own none) [.d, .d, .d, .d, .d, .d, .d, .d, .sl (.own none) [.d, .d], .sl (.own none) [.d], .d, .d, .sl (.own none) [.d, .d], .d]]], (.one false [.d])⟩
noncomputable def E_sOnce : TEnv := envOf [(202, p_sOwned), (20, p_sInside), (203, p_sWholeEdges)]
noncomputable def f_sOnce (n : Nat) : (Int × Int × List (Int) × List (Int × Int) × List (List (Int)) × List (Int) × Int × Int × Int × Int × Int × Int × Int × List (Int × Int) × Int × List (Int × Int × Int × Int × Int × Int) × List (Int × Int × List (Int × Int × Int × Bool) × Int × Bool × List (Int × Int) × List (Int)) × List (List (ByteArray × ByteArray × Int)) × List (Bool) × List (Int × Int × ByteArray) × List (Int × Int × Int × Int × Int × Int × Int) × List (Int × Int × Int × Int × Int × Int × Int × Bool × List (Int × Int) × List (Int) × Int × Int × List (Int × Int) × Int)) → Option ((Bool) × Unit) := runFn n E_sOnce c_sOnce [[.i .i64, .i .i64, .sl [.i .i64], .sl [.i .i64, .i .i64], .sl [.sl [.i .i64]], .sl [.i .i64], .i .i64, .i .i64, .i .i64, .i .i64, .i .i64, .i .i64, .i .i64, .sl [.i .i64, .i .i64], .i .i64, .sl [.i .i64, .i .i64, .i .i64, .i .i64, .i .i64, .i .i64], .sl [.i .i64, .i .i64, .sl [.i .i64, .i .i64, .i .i64, .b], .i .i64, .b, .sl [.i .i64, .i .i64], .sl [.i .i64]], .sl [.sl [.s, .s, .i .i64]], .sl [.b], .sl [.i .i64, .i .i64, .s], .sl [.i .i64, .i .i64, .i .i64, .i .i64, .i .i64, .i .i64, .i .i64], .sl [.i .i64, .i .i64, .i .i64, .i .i64, .i .i64, .i .i64, .i .i64, .b, .sl [.i .i64, .i .i64], .sl [.i .i64], .i .i64, .i .i64, .sl [.i .i64, .i .i64], .i .i64]]] [.b] [] [2] .no
noncomputable def g_sOnce := f_sOnce BIG
noncomputable def p_sOnce : TSp := ⟨s_sOnce, [[.i .i64, .i .i64, .sl [.i .i64], .sl [.i .i64, .i .i64], .sl [.sl [.i .i64]], .sl [.i .i64], .i .i64, .i .i64, .i .i64, .i .i64, .i .i64, .i .i64, .i .i64, .sl [.i .i64, .i .i64], .i .i64, .sl [.i .i64, .i .i64, .i .i64, .i .i64, .i .i64, .i .i64], .sl [.i .i64, .i .i64, .sl [.i .i64, .i .i64, .i .i64, .b], .i .i64, .b, .sl [.i .i64, .i .i64], .sl [.i .i64]], .sl [.sl [.s, .s, .i .i64]], .sl [.b], .sl [.i .i64, .i .i64, .s], .sl [.i .i64, .i .i64, .i .i64, .i .i64, .i .i64, .i .i64, .i .i64], .sl [.i .i64, .i .i64, .i .i64, .i .i64, .i .i64, .i .i64, .i .i64, .b, .sl [.i .i64, .i .i64], .sl [.i .i64], .i .i64, .i .i64, .sl [.i .i64, .i .i64], .i .i64]]], [.b], [], Ou.j .no, g_sOnce⟩
theorem k_sOnce : chkW PG E_sOnce 82 s_sOnce (c_sOnce.ht 54) .no = some (c_sOnce.wc E_sOnce, [2]) := by kernel_rfl
theorem ok_sOnce : p_sOnce.Ok PG 82 := mkOk (env_cons ok_sOwned (env_cons ok_sInside (env_cons ok_sWholeEdges (env_nil PG)))) k_sOnce (by kernel_rfl)
theorem e_sOnce (n : Nat) (a0 : Int × Int × List (Int) × List (Int × Int) × List ((List (Int))) × List (Int) × Int × Int × Int × Int × Int × Int × Int × List (Int × Int) × Int × List (Int × Int × Int × Int × Int × Int) × List (Int × Int × (List (Int × Int × Int × Bool)) × Int × Bool × (List (Int × Int)) × (List (Int))) × List ((List (ByteArray × ByteArray × Int))) × List (Bool) × List (Int × Int × ByteArray) × List (Int × Int × Int × Int × Int × Int × Int) × List (Int × Int × Int × Int × Int × Int × Int × Bool × (List (Int × Int)) × (List (Int)) × Int × Int × (List (Int × Int)) × Int)) : f_sOnce n a0 =
  Option.bind (loopT n (X := (List ((List (Int × Int)))) × Int) (B := ((List ((List (Int × Int))))) ⊕ (Bool)) (fun self1 x0 =>
    bif decide (x0.2 < (a0.2.2.2.2.2.2.2.2.2.2.2.2.2.2.2.2.1.length : Int)) then
     Option.bind (bnd a0.2.2.2.2.2.2.2.2.2.2.2.2.2.2.2.2.1.length x0.2 fun n2 =>
      Option.bind a0.2.2.2.2.2.2.2.2.2.2.2.2.2.2.2.2.1[n2]? fun y3 =>
      Option.bind (g_sOwned y3) fun r4 =>
      bif decide (x0.1.length + [r4.1].length ≤ 4294967296) then
       Option.bind (bif !decide (a0.2.2.2.2.2.2.2.1 = (4 : Int)) then
         Option.bind (g_sInside (a0.2.2.1, r4.1, IntKind.wrap .i64 (x0.2 + (1 : Int)))) fun r5 =>
         some (!decide ((r5.1.length : Int) = (r4.1.length : Int)))
        else some false : Option (Bool)) fun x6 =>
       bif x6 then
        some (Sum.inr false)
       else some (Sum.inl (x0.1 ++ [r4.1]))
      else none : Option (((List ((List (Int × Int))))) ⊕ (Bool))) fun y => match y with
     | .inl x7 =>
      self1 (x7, IntKind.wrap .i64 (x0.2 + (1 : Int)))
     | .inr x7 =>
      some (Sum.inr x7)
    else some (Sum.inl x0.1)) ([], (0 : Int)) : Option (((List ((List (Int × Int))))) ⊕ (Bool))) fun y => match y with
  | .inl x8 =>
   Option.bind (g_sWholeEdges (x8, a0.2.2.2.1)) fun r9 =>
   some (r9.1.2, ())
  | .inr x8 =>
   some (x8, ()) := by kernel_rfl
/- impl.GraphOf -/
def c_iGraphOf : TC :=
 (.seq (.rg [o1 1 (.a (.t 0)),
   ⟨false, [], [], .det 2 (.a (.c [.i .i64, .sl [.i .i64, .i .i64]] [.int .i64 (0), .slice none 0 0])), [2, 1000000001], (some 2), none⟩])
 (.seq (.rg [o1 6 (.idx .nil),
   o1 7 (.load 1 [] 0 (.t 6) 1 false),
   o1 8 (.build [.i .i64, .sl [.i .i64, .i .i64]] [(0, .t 7)]),
   ⟨false, [], [], .det 2 (.a (.c [.i .i64, .sl [.i .i64, .i .i64]] [.int .i64 (0), .slice none 0 0])), [3, 1000000001], (some 3), none⟩,
   o4 2 [3, 8] (.store 3 [] 0 .nil (.t 8))])
 (.seq (.join [⟨3, [.i .i64, .sl [.i .i64, .i .i64]], false⟩] 134217256 none (.seq (.rg [o1 9 (.idx .nil),
   o1 10 (.load 1 [] 1 (.t 9) 1 false),
   o1 11 (.len 10),
   o1 12 (.lit [.i .i64] [.int .i64 (0)])])
 (.block 0 (.loop [⟨3, [.i .i64, .sl [.i .i64, .i .i64]], false⟩, ⟨12, [.i .i64], false⟩] 134213672
  (.seq (.rg [o1 13 (.data (.bin .lss) [.t 12, .t 11])])
  (.seq (.cond (.t 13)
   .skip
   (.exit 0))
  (.seq (.block 1 (.seq (.rg [o1 14 (.index 10 (.t 12)),
    o1 15 (.load 10 [(0, 4)] 0 (.t 14) 4 false),
    ⟨false, [], [], .det 2 (.a (.c [.i .i64, .i .i64, .i .i64, .b] [.int .i64 (0), .int .i64 (0), .int .i64 (0), .bool false])), [5, 1000000001], (some 5), none⟩,
    o4 1 [5] (.store 5 [] 0 .nil (.t 15))])
  (.rg [o1 16 (.idx .nil),
    o1 17 (.load 3 [] 1 (.t 16) 1 true),
    o1 18 (.idx .nil),
    o1 19 (.load 5 [] 0 (.t 18) 1 false),
    o1 20 (.idx .nil),
    o1 21 (.load 5 [] 1 (.t 20) 1 false),
    o1 22 (.build [.i .i64, .i .i64] [(0, .t 19), (1, .t 21)]),
    o1 23 (.sli [.i .i64, .i .i64] [.t 22]),
    ⟨false, [17], [], .det 2 (.app (some 17) 23), [24, 17, 17, 3], (some 24), none⟩,
    o1 25 (.idx .nil),
    o4 2 [3, 24, 17] (.store 3 [] 1 (.t 25) (.t 24))])))
  (.rg [o1 26 (.data (.bin .add) [.t 12, .c (.int .i64 (1))]),
    o1 12 (.copy 26)]))))))))
 (.seq (.rg [o1 27 (.load 3 [] 0 .nil 2 true),
   ⟨false, [27], [], .det 2 (.store 2 [] 0 .nil (.t 27)), [2, 27, 27, 3], none, none⟩])
 .ret))))
def s_iGraphOf : Sig := ⟨[.rd true [.d, .sl (.own none) [.d, .d, .d, .d]]], (.one true [.d, .sl (.own none) [.d, .d]])⟩
noncomputable def E_iGraphOf : TEnv := envOf []
noncomputable def f_iGraphOf (n : Nat) : (Int × List (Int × Int × Int × Bool)) → Option ((Int × List (Int × Int)) × Unit) := runFn n E_iGraphOf c_iGraphOf [[.i .i64, .sl [.i .i64, .i .i64, .i .i64, .b]]] [.i .i64, .sl [.i .i64, .i .i64]] [] [2] .no
noncomputable def g_iGraphOf := f_iGraphOf BIG
noncomputable def p_iGraphOf : TSp := ⟨s_iGraphOf, [[.i .i64, .sl [.i .i64, .i .i64, .i .i64, .b]]], [.i .i64, .sl [.i .i64, .i .i64]], [], Ou.j .no, g_iGraphOf⟩
theorem k_iGraphOf : chkW PG E_iGraphOf 250 s_iGraphOf (c_iGraphOf.ht 28) .no = some (c_iGraphOf.wc E_iGraphOf, [2]) := by kernel_rfl
theorem ok_iGraphOf : p_iGraphOf.Ok PG 250 := mkOk (env_nil PG) k_iGraphOf (by kernel_rfl)
theorem e_iGraphOf (n : Nat) (a0 : Int × List (Int × Int × Int × Bool)) : f_iGraphOf n a0 =
  Option.bind (loopT n (X := (Int × List (Int × Int)) × Int) (B := (Int × List (Int × Int))) (fun self1 x0 =>
    bif decide (x0.2 < (a0.2.length : Int)) then
     bnd a0.2.length x0.2 fun n2 =>
     Option.bind a0.2[n2]? fun y3 =>
     bif decide (x0.1.2.length + ([(y3.1, y3.2.1)]).length ≤ 4294967296) then
      self1 ((x0.1.1, x0.1.2 ++ ([(y3.1, y3.2.1)])), IntKind.wrap .i64 (x0.2 + (1 : Int)))
     else none
    else some x0.1) ((a0.1, []), (0 : Int)) : Option ((Int × List (Int × Int)))) fun x4 =>
  some (x4, ()) := by kernel_rfl
/- impl.Owned -/
def c_iOwned : TC :=
 (.seq (.rg [o1 1 (.a (.t 0)),
   o1 2 (.lit [.sl [.i .i64, .i .i64]] [.slice none 0 0])])
 (.seq (.rg [o1 3 (.idx .nil),
   o1 4 (.load 1 [] 1 (.t 3) 2 false),
   o3 5 250 [.t 4],
   ⟨false, [], [], .det 2 (.ext 5 1 1), [6, 5], (some 6), none⟩,
   ⟨false, [], [], .det 2 (.copy 6), [2, 6], (some 2), none⟩])
 .ret))
def s_iOwned : Sig := ⟨[.rd true [.d, .d, .sl (.own none) [.d, .d, .d, .d], .d, .d, .sl (.own none) [.d, .d], .sl (.own none) [.d]]], (.one false [.sl (.own none) [.d, .d]])⟩
noncomputable def E_iOwned : TEnv := envOf [(250, p_iGraphOf)]
noncomputable def f_iOwned (n : Nat) : (Int × Int × List (Int × Int × Int × Bool) × Int × Bool × List (Int × Int) × List (Int)) → Option ((List (Int × Int)) × Unit) := runFn n E_iOwned c_iOwned [[.i .i64, .i .i64, .sl [.i .i64, .i .i64, .i .i64, .b], .i .i64, .b, .sl [.i .i64, .i .i64], .sl [.i .i64]]] [.sl [.i .i64, .i .i64]] [] [2] .no
noncomputable def g_iOwned := f_iOwned BIG
noncomputable def p_iOwned : TSp := ⟨s_iOwned, [[.i .i64, .i .i64, .sl [.i .i64, .i .i64, .i .i64, .b], .i .i64, .b, .sl [.i .i64, .i .i64], .sl [.i .i64]]], [.sl [.i .i64, .i .i64]], [], Ou.j .no, g_iOwned⟩
theorem k_iOwned : chkW PG E_iOwned 211 s_iOwned (c_iOwned.ht 7) .no = some (c_iOwned.wc E_iOwned, [2]) := by kernel_rfl
theorem ok_iOwned : p_iOwned.Ok PG 211 := mkOk (env_cons ok_iGraphOf (env_nil PG)) k_iOwned (by kernel_rfl)
theorem e_iOwned (n : Nat) (a0 : Int × Int × List (Int × Int × Int × Bool) × Int × Bool × List (Int × Int) × List (Int)) : f_iOwned n a0 =
  Option.bind (g_iGraphOf (a0.2.1, a0.2.2.1)) fun r0 =>
  some (r0.1.2, ()) := by kernel_rfl
/- impl.webs -/
def c_iwebs : TC :=
 (.seq (.rg [o1 1 (.a (.t 0)),
   o1 2 (.lit [.sl [.sl [.i .i64, .i .i64]]] [.slice none 0 0])])
 (.seq (.rg [o1 3 (.lit [.sl [.sl [.i .i64, .i .i64]]] [.slice none 0 0])])
 (.seq (.join [⟨3, [.sl [.sl [.i .i64, .i .i64]]], false⟩] 524264 none (.seq (.rg [o1 6 (.idx .nil),
   o1 7 (.load 1 [] 16 (.t 6) 1 false),
   o1 8 (.len 7),
   o1 9 (.lit [.i .i64] [.int .i64 (0)])])
 (.block 0 (.loop [⟨3, [.sl [.sl [.i .i64, .i .i64]]], false⟩, ⟨9, [.i .i64], false⟩] 523816
  (.seq (.rg [o1 10 (.data (.bin .lss) [.t 9, .t 8])])
  (.seq (.cond (.t 10)
   .skip
   (.exit 0))
  (.seq (.block 1 (.seq (.rg [o1 11 (.index 7 (.t 9)),
    o1 12 (.load 7 [(0, 7)] 0 (.t 11) 7 false),
    ⟨false, [], [], .det 2 (.a (.c [.i .i64, .i .i64, .sl [.i .i64, .i .i64, .i .i64, .b], .i .i64, .b, .sl [.i .i64, .i .i64], .sl [.i .i64]] [.int .i64 (0), .int .i64 (0), .slice none 0 0, .int .i64 (0), .bool false, .slice none 0 0, .slice none 0 0])), [5, 1000000001], (some 5), none⟩,
    o4 1 [5] (.store 5 [] 0 .nil (.t 12))])
  (.rg [⟨false, [], [], .det 2 (.copy 3), [13, 3], (some 13), none⟩,
    o1 14 (.load 5 [] 0 .nil 7 false),
    o3 15 211 [.t 14],
    ⟨false, [], [], .det 2 (.sli [.sl [.i .i64, .i .i64]] [.t 15]), [16, 15], (some 16), none⟩,
    ⟨false, [], [], .det 3 (.app (some 13) 16), [17, 13, 16], (some 17), none⟩,
    ⟨false, [], [], .det 2 (.copy 17), [3, 17], (some 3), none⟩])))
  (.rg [o1 18 (.data (.bin .add) [.t 9, .c (.int .i64 (1))]),
    o1 9 (.copy 18)]))))))))
 (.seq (.rg [⟨false, [], [], .det 2 (.copy 3), [19, 3], (some 19), none⟩,
   ⟨false, [], [], .det 2 (.copy 19), [2, 19], (some 2), none⟩])
 .ret))))
def s_iwebs : Sig := ⟨[.rd true [.d, .d, .sl (.own none) [.d], .sl (.own none) [.d, .d], .sl (.own none) [.sl (.own none) [.d]], .sl (.own none) [.d], .d, .d, .d, .d, .d, .d, .d, .sl (.own none) [.d, .d], .d, .sl (.own none) [.d, .d, .d, .d, .d, .d], .sl (.own none) [.d, .d, .sl (.own none) [.d, .d, .d, .d], .d, .d, .sl (.own none) [.d, .d], .sl (.own none) [.d]], .sl (.own none) [.sl (.own none) [.d, .d, .d]], .sl (.own none) [.d], .sl (.own none) [.d, .d, .d], .sl (.own none) [.d, .d, .d, .d, .d, .d, .d], .sl (.own none) [.d, .d, .d, .d, .d, .d, .d, .d, .sl (.own none) [.d, .d], .sl (.own none) [.d], .d, .d, .sl (.own none) [.d, .d], .d]]], (.one false [.sl (.own none) [.sl (.own none) [.d, .d]]])⟩
noncomputable def E_iwebs : TEnv := envOf [(211, p_iOwned)]
noncomputable def f_iwebs (n : Nat) : (Int × Int × List (Int) × List (Int × Int) × List (List (Int)) × List (Int) × Int × Int × Int × Int × Int × Int × Int × List (Int × Int) × Int × List (Int × Int × Int × Int × Int × Int) × List (Int × Int × List (Int × Int × Int × Bool) × Int × Bool × List (Int × Int) × List (Int)) × List (List (ByteArray × ByteArray × Int)) × List (Bool) × List (Int × Int × ByteArray) × List (Int × Int × Int × Int × Int × Int × Int) × List (Int × Int × Int × Int × Int × Int × Int × Bool × List (Int × Int) × List (Int) × Int × Int × List (Int × Int) × Int)) → Option ((List (List (Int × Int))) × Unit) := runFn n E_iwebs c_iwebs [[.i .i64, .i .i64, .sl [.i .i64], .sl [.i .i64, .i .i64], .sl [.sl [.i .i64]], .sl [.i .i64], .i .i64, .i .i64, .i .i64, .i .i64, .i .i64, .i .i64, .i .i64, .sl [.i .i64, .i .i64], .i .i64, .sl [.i .i64, .i .i64, .i .i64, .i .i64, .i .i64, .i .i64], .sl [.i .i64, .i .i64, .sl [.i .i64, .i .i64, .i .i64, .b], .i .i64, .b, .sl [.i .i64, .i .i64], .sl [.i .i64]], .sl [.sl [.s, .s, .i .i64]], .sl [.b], .sl [.i .i64, .i .i64, .s], .sl [.i .i64, .i .i64, .i .i64, .i .i64, .i .i64, .i .i64, .i .i64], .sl [.i .i64, .i .i64, .i .i64, .i .i64, .i .i64, .i .i64, .i .i64, .b, .sl [.i .i64, .i .i64], .sl [.i .i64], .i .i64, .i .i64, .sl [.i .i64, .i .i64], .i .i64]]] [.sl [.sl [.i .i64, .i .i64]]] [] [2] .no
noncomputable def g_iwebs := f_iwebs BIG
noncomputable def p_iwebs : TSp := ⟨s_iwebs, [[.i .i64, .i .i64, .sl [.i .i64], .sl [.i .i64, .i .i64], .sl [.sl [.i .i64]], .sl [.i .i64], .i .i64, .i .i64, .i .i64, .i .i64, .i .i64, .i .i64, .i .i64, .sl [.i .i64, .i .i64], .i .i64, .sl [.i .i64, .i .i64, .i .i64, .i .i64, .i .i64, .i .i64], .sl [.i .i64, .i .i64, .sl [.i .i64, .i .i64, .i .i64, .b], .i .i64, .b, .sl [.i .i64, .i .i64], .sl [.i .i64]], .sl [.sl [.s, .s, .i .i64]], .sl [.b], .sl [.i .i64, .i .i64, .s], .sl [.i .i64, .i .i64, .i .i64, .i .i64, .i .i64, .i .i64, .i .i64], .sl [.i .i64, .i .i64, .i .i64, .i .i64, .i .i64, .i .i64, .i .i64, .b, .sl [.i .i64, .i .i64], .sl [.i .i64], .i .i64, .i .i64, .sl [.i .i64, .i .i64], .i .i64]]], [.sl [.sl [.i .i64, .i .i64]]], [], Ou.j .no, g_iwebs⟩
theorem k_iwebs : chkW PG E_iwebs 210 s_iwebs (c_iwebs.ht 20) .no = some (c_iwebs.wc E_iwebs, [2]) := by kernel_rfl
theorem ok_iwebs : p_iwebs.Ok PG 210 := mkOk (env_cons ok_iOwned (env_nil PG)) k_iwebs (by kernel_rfl)
theorem e_iwebs (n : Nat) (a0 : Int × Int × List (Int) × List (Int × Int) × List ((List (Int))) × List (Int) × Int × Int × Int × Int × Int × Int × Int × List (Int × Int) × Int × List (Int × Int × Int × Int × Int × Int) × List (Int × Int × (List (Int × Int × Int × Bool)) × Int × Bool × (List (Int × Int)) × (List (Int))) × List ((List (ByteArray × ByteArray × Int))) × List (Bool) × List (Int × Int × ByteArray) × List (Int × Int × Int × Int × Int × Int × Int) × List (Int × Int × Int × Int × Int × Int × Int × Bool × (List (Int × Int)) × (List (Int)) × Int × Int × (List (Int × Int)) × Int)) : f_iwebs n a0 =
  Option.bind (loopT n (X := (List ((List (Int × Int)))) × Int) (B := (List ((List (Int × Int))))) (fun self1 x0 =>
    bif decide (x0.2 < (a0.2.2.2.2.2.2.2.2.2.2.2.2.2.2.2.2.1.length : Int)) then
     bnd a0.2.2.2.2.2.2.2.2.2.2.2.2.2.2.2.2.1.length x0.2 fun n2 =>
     Option.bind a0.2.2.2.2.2.2.2.2.2.2.2.2.2.2.2.2.1[n2]? fun y3 =>
     Option.bind (g_iOwned y3) fun r4 =>
     bif decide (x0.1.length + [r4.1].length ≤ 4294967296) then
      self1 (x0.1 ++ [r4.1], IntKind.wrap .i64 (x0.2 + (1 : Int)))
     else none
    else some x0.1) ([], (0 : Int)) : Option ((List ((List (Int × Int)))))) fun x5 =>
  some (x5, ()) := by kernel_rfl
/- impl.hasEdge -/
def c_ihasEdge : TC :=
 (.seq (.rg [o1 3 (.a (.t 1)),
   o1 4 (.lit [.b] [.bool false])])
 (.seq (.join [] 131024 (some [⟨4, [.b], false⟩]) (.seq (.rg [o1 7 (.copy 0),
   o1 8 (.len 7),
   o1 9 (.lit [.i .i64] [.int .i64 (0)])])
 (.block 0 (.loop [⟨9, [.i .i64], false⟩] 130640
  (.seq (.rg [o1 10 (.data (.bin .lss) [.t 9, .t 8])])
  (.seq (.cond (.t 10)
   .skip
   (.exit 0))
  (.seq (.block 1 (.seq (.rg [o1 11 (.index 7 (.t 9)),
    o1 12 (.load 7 [(0, 2)] 0 (.t 11) 2 false),
    ⟨false, [], [], .det 2 (.a (.c [.i .i64, .i .i64] [.int .i64 (0), .int .i64 (0)])), [6, 1000000001], (some 6), none⟩,
    o4 1 [6] (.store 6 [] 0 .nil (.t 12))])
  (.seq (.rg [o1 13 (.load 6 [] 0 .nil 2 false),
    o1 14 (.load 3 [] 0 .nil 2 false),
    o1 15 (.eqA [.i, .i] (.t 13) (.t 14) false)])
  (.cond (.t 15)
   (.seq (.rg [o1 4 (.lit [.b] [.bool true])])
   .ret)
   .skip))))
  (.rg [o1 16 (.data (.bin .add) [.t 9, .c (.int .i64 (1))]),
    o1 9 (.copy 16)]))))))))
 (.seq (.rg [o1 4 (.lit [.b] [.bool false])])
 .ret)))
def s_ihasEdge : Sig := ⟨[.rd false [.sl (.own none) [.d, .d]], .rd true [.d, .d]], (.one false [.d])⟩
noncomputable def E_ihasEdge : TEnv := envOf []
noncomputable def f_ihasEdge (n : Nat) : (List (Int × Int)) × (Int × Int) → Option ((Bool) × Unit) := runFn n E_ihasEdge c_ihasEdge [[.sl [.i .i64, .i .i64]], [.i .i64, .i .i64]] [.b] [] [4] .no
noncomputable def g_ihasEdge := f_ihasEdge BIG
noncomputable def p_ihasEdge : TSp := ⟨s_ihasEdge, [[.sl [.i .i64, .i .i64]], [.i .i64, .i .i64]], [.b], [], Ou.j .no, g_ihasEdge⟩
theorem k_ihasEdge : chkW PG E_ihasEdge 118 s_ihasEdge (c_ihasEdge.ht 17) .no = some (c_ihasEdge.wc E_ihasEdge, [4]) := by kernel_rfl
theorem ok_ihasEdge : p_ihasEdge.Ok PG 118 := mkOk (env_nil PG) k_ihasEdge (by kernel_rfl)
theorem e_ihasEdge (n : Nat) (a0 : List (Int × Int)) (a1 : Int × Int) : f_ihasEdge n (a0, a1) =
  Option.bind (loopT n (X := Int) (B := (Unit) ⊕ (Bool)) (fun self1 x0 =>
    bif decide (x0 < (a0.length : Int)) then
     bnd a0.length x0 fun n2 =>
     Option.bind a0[n2]? fun y3 =>
     bif (decide (y3.1 = a1.1) && (decide (y3.2 = a1.2) && true)) then
      some (Sum.inr true)
     else self1 (IntKind.wrap .i64 (x0 + (1 : Int)))
    else some (Sum.inl ())) (0 : Int) : Option ((Unit) ⊕ (Bool))) fun y => match y with
  | .inl x4 =>
   some (false, ())
  | .inr x4 =>
   some (x4, ()) := by kernel_rfl
/- impl.ahead -/
def c_iahead : TC :=
 (.seq (.rg [o1 2 (.a (.t 0)),
   o1 3 (.a (.t 1)),
   o1 4 (.lit [.b] [.bool false])])
 (.seq (.join [⟨4, [.b], false⟩] 16777200 none (.rg [o1 5 (.idx .nil),
   o1 6 (.load 2 [] 0 (.t 5) 1 false),
   o1 7 (.idx .nil),
   o1 8 (.load 3 [] 0 (.t 7) 1 false),
   o1 9 (.data (.bin .lss) [.t 6, .t 8]),
   o1 10 (.copy 9),
   o2 11 (.idx .nil) 5 false,
   o2 12 (.load 2 [] 0 (.t 11) 1 false) 5 false,
   o2 13 (.idx .nil) 5 false,
   o2 14 (.load 3 [] 0 (.t 13) 1 false) 5 false,
   o2 15 (.data (.bin .eql) [.t 12, .t 14]) 5 false,
   o2 16 (.copy 15) 5 false,
   o2 17 (.idx .nil) 11 true,
   o2 18 (.load 2 [] 1 (.t 17) 1 false) 11 true,
   o2 19 (.idx .nil) 11 true,
   o2 20 (.load 3 [] 1 (.t 19) 1 false) 11 true,
   o2 21 (.data (.bin .lss) [.t 18, .t 20]) 11 true,
   ⟨false, [], [], .pick 16 (.t 21) (.c (.bool false)), [22], (some 22), some (5, false)⟩,
   ⟨false, [], [], .pick 10 (.c (.bool true)) (.t 22), [23], (some 23), none⟩,
   o1 4 (.copy 23)]))
 .ret))
def s_iahead : Sig := ⟨[.rd true [.d, .d], .rd true [.d, .d]], (.one false [.d])⟩
noncomputable def E_iahead : TEnv := envOf []
noncomputable def f_iahead (n : Nat) : (Int × Int) × (Int × Int) → Option ((Bool) × Unit) := runFn n E_iahead c_iahead [[.i .i64, .i .i64], [.i .i64, .i .i64]] [.b] [] [4] .no
noncomputable def g_iahead := f_iahead BIG
noncomputable def p_iahead : TSp := ⟨s_iahead, [[.i .i64, .i .i64], [.i .i64, .i .i64]], [.b], [], Ou.j .no, g_iahead⟩
theorem k_iahead : chkW PG E_iahead 234 s_iahead (c_iahead.ht 24) .no = some (c_iahead.wc E_iahead, [4]) := by kernel_rfl
theorem ok_iahead : p_iahead.Ok PG 234 := mkOk (env_nil PG) k_iahead (by kernel_rfl)
theorem e_iahead (n : Nat) (a0 : Int × Int) (a1 : Int × Int) : f_iahead n (a0, a1) =
  Option.bind (bif decide (a0.1 < a1.1) then
    some true
   else bif decide (a0.1 = a1.1) then
    some (decide (a0.2 < a1.2))
   else some false : Option (Bool)) fun x0 =>
  some (x0, ()) := by kernel_rfl
/- impl.withEdge -/
def c_iwithEdge : TC :=
 (.seq (.rg [o1 3 (.a (.t 1)),
   o1 4 (.lit [.sl [.i .i64, .i .i64]] [.slice none 0 0])])
 (.seq (.rg [o1 5 (.lit [.i .i64] [.int .i64 (0)])])
 (.seq (.join [⟨5, [.i .i64], false⟩] 1048544 none (.block 0 (.loop [⟨5, [.i .i64], false⟩] 1048544
  (.seq (.seq (.join [⟨17, [.b], false⟩] 262080 none (.rg [o1 6 (.copy 5),
    o1 7 (.copy 0),
    o1 8 (.len 7),
    o1 9 (.data (.bin .lss) [.t 6, .t 8]),
    o1 10 (.copy 9),
    o2 11 (.copy 0) 4 true,
    o2 12 (.copy 5) 4 true,
    o2 13 (.index 11 (.t 12)) 4 true,
    o2 14 (.load 11 [(0, 2)] 0 (.t 13) 2 false) 4 true,
    o2 15 (.load 3 [] 0 .nil 2 false) 4 true,
    ⟨false, [], [], .call 1 234 [.t 14, .t 15] .no, [16], (some 16), some (4, true)⟩,
    ⟨false, [], [], .pick 10 (.t 16) (.c (.bool false)), [17], (some 17), none⟩]))
  (.cond (.t 17)
   .skip
   (.exit 0)))
  (.block 1 (.rg [o1 18 (.copy 5),
    o1 19 (.data (.bin .add) [.t 18, .c (.int .i64 (1))]),
    o1 5 (.copy 19)]))))))
 (.seq (.rg [o1 20 (.copy 0),
   o1 21 (.copy 5),
   o1 22 (.res 20 none (some (.t 21))),
   o1 23 (.app none 22),
   o1 24 (.load 3 [] 0 .nil 2 false),
   o1 25 (.sli [.i .i64, .i .i64] [.t 24]),
   ⟨false, [], [], .det 2 (.app (some 23) 25), [26, 23], (some 26), none⟩,
   o1 27 (.copy 0),
   o1 28 (.copy 5),
   o1 29 (.res 27 (some (.t 28)) none),
   ⟨false, [], [], .det 2 (.app (some 26) 29), [30, 26], (some 30), none⟩,
   ⟨false, [], [], .det 2 (.copy 30), [4, 30], (some 4), none⟩])
 .ret))))
def s_iwithEdge : Sig := ⟨[.rd false [.sl (.own none) [.d, .d]], .rd true [.d, .d]], (.one false [.sl (.own none) [.d, .d]])⟩
noncomputable def E_iwithEdge : TEnv := envOf [(234, p_iahead)]
noncomputable def f_iwithEdge (n : Nat) : (List (Int × Int)) × (Int × Int) → Option ((List (Int × Int)) × Unit) := runFn n E_iwithEdge c_iwithEdge [[.sl [.i .i64, .i .i64]], [.i .i64, .i .i64]] [.sl [.i .i64, .i .i64]] [] [4] .no
noncomputable def g_iwithEdge := f_iwithEdge BIG
noncomputable def p_iwithEdge : TSp := ⟨s_iwithEdge, [[.sl [.i .i64, .i .i64]], [.i .i64, .i .i64]], [.sl [.i .i64, .i .i64]], [], Ou.j .no, g_iwithEdge⟩
theorem k_iwithEdge : chkW PG E_iwithEdge 119 s_iwithEdge (c_iwithEdge.ht 31) .no = some (c_iwithEdge.wc E_iwithEdge, [4]) := by kernel_rfl
theorem ok_iwithEdge : p_iwithEdge.Ok PG 119 := mkOk (env_cons ok_iahead (env_nil PG)) k_iwithEdge (by kernel_rfl)
theorem e_iwithEdge (n : Nat) (a0 : List (Int × Int)) (a1 : Int × Int) : f_iwithEdge n (a0, a1) =
  Option.bind (loopT n (X := Int) (B := Int) (fun self1 x0 =>
    Option.bind (bif decide (x0 < (a0.length : Int)) then
      bnd a0.length x0 fun n2 =>
      Option.bind a0[n2]? fun y3 =>
      Option.bind (g_iahead (y3, a1)) fun r4 =>
      some r4.1
     else some false : Option (Bool)) fun x5 =>
    bif x5 then
     self1 (IntKind.wrap .i64 (x0 + (1 : Int)))
    else some x0) (0 : Int) : Option (Int)) fun x6 =>
  bif decide (0 ≤ x6) then
   bif decide (0 ≤ (Int.toNat x6) ∧ (Int.toNat x6) ≤ a0.length) then
    bif decide ((List.take ((Int.toNat x6) - 0) (List.drop 0 a0)).length ≤ 4294967296) then
     bif decide ((List.take ((Int.toNat x6) - 0) (List.drop 0 a0)).length + [a1].length ≤ 4294967296) then
      bif decide (0 ≤ x6) then
       bif decide ((Int.toNat x6) ≤ a0.length ∧ a0.length ≤ a0.length) then
        bif decide (((List.take ((Int.toNat x6) - 0) (List.drop 0 a0)) ++ [a1]).length + (List.take (a0.length - (Int.toNat x6)) (List.drop (Int.toNat x6) a0)).length ≤ 4294967296) then
         some (((List.take ((Int.toNat x6) - 0) (List.drop 0 a0)) ++ [a1]) ++ (List.take (a0.length - (Int.toNat x6)) (List.drop (Int.toNat x6) a0)), ())
        else none
       else none
      else none
     else none
    else none
   else none
  else none := by kernel_rfl
/- impl.WholeEdges -/
def c_iWholeEdges : TC :=
 (.seq (.rg [o1 4 (.lit [.sl [.i .i64, .i .i64]] [.slice none 0 0]),
   o1 5 (.lit [.b] [.bool false])])
 (.seq (.rg [o1 6 (.lit [.sl [.i .i64, .i .i64]] [.slice none 0 0])])
 (.seq (.join [⟨6, [.sl [.i .i64, .i .i64]], false⟩] 34359737712 (some [⟨4, [.sl [.i .i64, .i .i64]], false⟩, ⟨5, [.b], false⟩]) (.seq (.rg [o1 11 (.copy 0),
   o1 12 (.app none 11),
   o1 13 (.copy 1),
   o1 14 (.sli [.sl [.i .i64, .i .i64]] [.t 13]),
   ⟨false, [], [], .det 2 (.app (some 12) 14), [15, 12], (some 15), none⟩,
   o1 16 (.len 15),
   o1 17 (.lit [.i .i64] [.int .i64 (0)])])
 (.block 0 (.loop [⟨6, [.sl [.i .i64, .i .i64]], false⟩, ⟨17, [.i .i64], false⟩] 34359608688
  (.seq (.rg [o1 18 (.data (.bin .lss) [.t 17, .t 16])])
  (.seq (.cond (.t 18)
   .skip
   (.exit 0))
  (.seq (.join [⟨6, [.sl [.i .i64, .i .i64]], false⟩] 17179346288 (some [⟨4, [.sl [.i .i64, .i .i64]], false⟩, ⟨5, [.b], false⟩]) (.block 1 (.seq (.rg [o1 19 (.index 15 (.t 17)),
    o1 20 (.load 15 [(0, 1)] 0 (.t 19) 1 false),
    o1 8 (.copy 20)])
  (.seq (.rg [o1 21 (.copy 8),
    o1 22 (.len 21),
    o1 23 (.lit [.i .i64] [.int .i64 (0)])])
  (.block 2 (.loop [⟨6, [.sl [.i .i64, .i .i64]], false⟩, ⟨23, [.i .i64], false⟩] 17171481712
   (.seq (.rg [o1 24 (.data (.bin .lss) [.t 23, .t 22])])
   (.seq (.cond (.t 24)
    .skip
    (.exit 2))
   (.seq (.block 3 (.seq (.rg [o1 25 (.index 21 (.t 23)),
     o1 26 (.load 21 [(0, 2)] 0 (.t 25) 2 false),
     ⟨false, [], [], .det 2 (.a (.c [.i .i64, .i .i64] [.int .i64 (0), .int .i64 (0)])), [10, 1000000001], (some 10), none⟩,
     o4 1 [10] (.store 10 [] 0 .nil (.t 26))])
   (.seq (.seq (.rg [⟨true, [], [], .det 1 (.copy 6), [27], (some 27), none⟩,
     o1 28 (.load 10 [] 0 .nil 2 false),
     o3 29 118 [.t 27, .t 28]])
   (.cond (.t 29)
    (.seq (.rg [o1 4 (.lit [.sl [.i .i64, .i .i64]] [.slice none 0 0]),
      o1 5 (.lit [.b] [.bool false])])
    .ret)
    .skip))
   (.rg [⟨false, [], [], .det 2 (.copy 6), [30, 6, 27], (some 30), none⟩,
     o1 31 (.load 10 [] 0 .nil 2 false),
     o3 32 119 [.t 30, .t 31],
     ⟨false, [], [], .det 2 (.copy 32), [6, 32, 27], (some 6), none⟩]))))
   (.rg [o1 33 (.data (.bin .add) [.t 23, .c (.int .i64 (1))]),
     o1 23 (.copy 33)]))))))))))
  (.rg [o1 34 (.data (.bin .add) [.t 17, .c (.int .i64 (1))]),
    o1 17 (.copy 34)]))))))))
 (.seq (.rg [⟨false, [], [], .det 2 (.copy 6), [35, 6], (some 35), none⟩,
   ⟨false, [], [], .det 2 (.copy 35), [4, 35], (some 4), none⟩,
   o1 5 (.lit [.b] [.bool true])])
 .ret))))
def s_iWholeEdges : Sig := ⟨[.rd false [.sl (.own none) [.sl (.own none) [.d, .d]]], .rd false [.sl (.own none) [.d, .d]]], (.tup [(false, 1), (false, 1)] [.sl (.own none) [.d, .d], .d])⟩
noncomputable def E_iWholeEdges : TEnv := envOf [(118, p_ihasEdge), (119, p_iwithEdge)]
noncomputable def f_iWholeEdges (n : Nat) : (List (List (Int × Int))) × (List (Int × Int)) → Option ((List (Int × Int) × Bool) × Unit) := runFn n E_iWholeEdges c_iWholeEdges [[.sl [.sl [.i .i64, .i .i64]]], [.sl [.i .i64, .i .i64]]] [.sl [.i .i64, .i .i64], .b] [] [4, 5] .no
noncomputable def g_iWholeEdges := f_iWholeEdges BIG
noncomputable def p_iWholeEdges : TSp := ⟨s_iWholeEdges, [[.sl [.sl [.i .i64, .i .i64]]], [.sl [.i .i64, .i .i64]]], [.sl [.i .i64, .i .i64], .b], [], Ou.j .no, g_iWholeEdges⟩
theorem k_iWholeEdges : chkW PG E_iWholeEdges 41 s_iWholeEdges (c_iWholeEdges.ht 36) .no = some (c_iWholeEdges.wc E_iWholeEdges, [4, 5]) := by kernel_rfl
theorem ok_iWholeEdges : p_iWholeEdges.Ok PG 41 := mkOk (env_cons ok_ihasEdge (env_cons ok_iwithEdge (env_nil PG))) k_iWholeEdges (by kernel_rfl)
theorem e_iWholeEdges (n : Nat) (a0 : List ((List (Int × Int)))) (a1 : List (Int × Int)) : f_iWholeEdges n (a0, a1) =
  Option.bind (bif decide (a0.length ≤ 4294967296) then
    bif decide (a0.length + [a1].length ≤ 4294967296) then
     loopT n (X := (List (Int × Int)) × Int) (B := ((List (Int × Int))) ⊕ ((List (Int × Int)) × Bool)) (fun self1 x0 =>
      bif decide (x0.2 < ((a0 ++ [a1]).length : Int)) then
       Option.bind (bnd (a0 ++ [a1]).length x0.2 fun n2 =>
        Option.bind (a0 ++ [a1])[n2]? fun y3 =>
        loopT n (X := (List (Int × Int)) × Int) (B := ((List (Int × Int))) ⊕ ((List (Int × Int)) × Bool)) (fun self5 x4 =>
         bif decide (x4.2 < (y3.length : Int)) then
          bnd y3.length x4.2 fun n6 =>
          Option.bind y3[n6]? fun y7 =>
          Option.bind (g_ihasEdge (x4.1, y7)) fun r8 =>
          bif r8.1 then
           some (Sum.inr ([], false))
          else Option.bind (g_iwithEdge (x4.1, y7)) fun r9 =>
          self5 (r9.1, IntKind.wrap .i64 (x4.2 + (1 : Int)))
         else some (Sum.inl x4.1)) (x0.1, (0 : Int)) : Option (((List (Int × Int))) ⊕ ((List (Int × Int)) × Bool))) fun y => match y with
       | .inl x10 =>
        self1 (x10, IntKind.wrap .i64 (x0.2 + (1 : Int)))
       | .inr x10 =>
        some (Sum.inr (x10.1, x10.2))
      else some (Sum.inl x0.1)) ([], (0 : Int))
    else none
   else none : Option (((List (Int × Int))) ⊕ ((List (Int × Int)) × Bool))) fun y => match y with
  | .inl x11 =>
   some ((x11, true), ())
  | .inr x11 =>
   some (x11, ()) := by kernel_rfl
/- impl.in -/
def c_iin : TC :=
 (.seq (.rg [o1 6 (.lit [.b] [.bool false])])
 (.seq (.join [⟨6, [.b], false⟩] 32704 none (.rg [o1 7 (.copy 0),
   o1 8 (.copy 1),
   o1 9 (.data (.bin .geq) [.t 7, .t 8]),
   o1 10 (.copy 9),
   o2 11 (.copy 0) 3 true,
   o2 12 (.copy 2) 3 true,
   o2 13 (.data (.bin .leq) [.t 11, .t 12]) 3 true,
   ⟨false, [], [], .pick 10 (.t 13) (.c (.bool false)), [14], (some 14), none⟩,
   o1 6 (.copy 14)]))
 .ret))
def s_iin : Sig := ⟨[.rd false [.d], .rd false [.d], .rd false [.d]], (.one false [.d])⟩
noncomputable def E_iin : TEnv := envOf []
noncomputable def f_iin (n : Nat) : Int × Int × Int → Option ((Bool) × Unit) := runFn n E_iin c_iin [[.i .i64], [.i .i64], [.i .i64]] [.b] [] [6] .no
noncomputable def g_iin := f_iin BIG
noncomputable def p_iin : TSp := ⟨s_iin, [[.i .i64], [.i .i64], [.i .i64]], [.b], [], Ou.j .no, g_iin⟩
theorem k_iin : chkW PG E_iin 101 s_iin (c_iin.ht 15) .no = some (c_iin.wc E_iin, [6]) := by kernel_rfl
theorem ok_iin : p_iin.Ok PG 101 := mkOk (env_nil PG) k_iin (by kernel_rfl)
theorem e_iin (n : Nat) (a0 : Int) (a1 : Int) (a2 : Int) : f_iin n (a0, a1, a2) =
  Option.bind (bif decide (a1 ≤ a0) then
    some (decide (a0 ≤ a2))
   else some false : Option (Bool)) fun x0 =>
  some (x0, ()) := by kernel_rfl
/- impl.owns -/
def c_iowns : TC :=
 (.seq (.rg [o1 6 (.lit [.b] [.bool false])])
 (.seq (.join [⟨6, [.b], false⟩] 1048512 none (.rg [o1 7 (.copy 1),
   o1 8 (.copy 0),
   o1 9 (.len 8),
   o1 10 (.data (.bin .sub) [.t 9, .c (.int .i64 (1))]),
   o3 11 101 [.t 7, .c [.i .i64] [.int .i64 (0)], .t 10],
   o1 12 (.copy 11),
   o2 13 (.copy 0) 5 true,
   o2 14 (.copy 1) 5 true,
   o2 15 (.index 13 (.t 14)) 5 true,
   o2 16 (.load 13 [(0, 1)] 0 (.t 15) 1 false) 5 true,
   o2 17 (.copy 2) 5 true,
   o2 18 (.data (.bin .eql) [.t 16, .t 17]) 5 true,
   ⟨false, [], [], .pick 12 (.t 18) (.c (.bool false)), [19], (some 19), none⟩,
   o1 6 (.copy 19)]))
 .ret))
def s_iowns : Sig := ⟨[.rd false [.sl (.own none) [.d]], .rd false [.d], .rd false [.d]], (.one false [.d])⟩
noncomputable def E_iowns : TEnv := envOf [(101, p_iin)]
noncomputable def f_iowns (n : Nat) : List (Int) × Int × Int → Option ((Bool) × Unit) := runFn n E_iowns c_iowns [[.sl [.i .i64]], [.i .i64], [.i .i64]] [.b] [] [6] .no
noncomputable def g_iowns := f_iowns BIG
noncomputable def p_iowns : TSp := ⟨s_iowns, [[.sl [.i .i64]], [.i .i64], [.i .i64]], [.b], [], Ou.j .no, g_iowns⟩
theorem k_iowns : chkW PG E_iowns 97 s_iowns (c_iowns.ht 20) .no = some (c_iowns.wc E_iowns, [6]) := by kernel_rfl
theorem ok_iowns : p_iowns.Ok PG 97 := mkOk (env_cons ok_iin (env_nil PG)) k_iowns (by kernel_rfl)
theorem e_iowns (n : Nat) (a0 : List (Int)) (a1 : Int) (a2 : Int) : f_iowns n (a0, a1, a2) =
  Option.bind (Option.bind (g_iin (a1, (0 : Int), IntKind.wrap .i64 ((a0.length : Int) - (1 : Int)))) fun r0 =>
   bif r0.1 then
    bnd a0.length a1 fun n1 =>
    Option.bind a0[n1]? fun y2 =>
    some (decide (y2 = a2))
   else some false : Option (Bool)) fun x3 =>
  some (x3, ()) := by kernel_rfl
end Go.Fw
