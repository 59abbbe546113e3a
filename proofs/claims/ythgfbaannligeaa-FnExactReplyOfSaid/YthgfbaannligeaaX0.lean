/- The given functions, as what they compute; each is shown to be what the code does. No conditions. -/
import Derived.Test.YthgfbaannligeaaG4
import Derived.Test.YthgfbaannligeaaProg
set_option linter.unusedVariables false
set_option linter.unusedSimpArgs false
namespace Go.Fw
noncomputable abbrev PG := Go.Proofs.Try.prog
def o2 (d : Nat) (e : ED) (j : Nat) (b : Bool) : TO := ⟨false, [], [], .det 1 e, [d], some d, some (j, b)⟩
def o3 (d : Nat) (K : FuncId) (gets : List OY) : TO := ⟨false, [], [], .call 1 K gets .no, [d], some d, none⟩
def o4 (n : Nat) (ds : List Nat) (e : ED) : TO := ⟨false, [], [], .det n e, ds, none, none⟩
end Go.Fw
namespace Go.Fw
/- laws.szIntS -/
def c_lszIntS : TC :=
 (.seq (.rg [o1 4 (.lit [.i .i64] [.int .i64 (0)])])
 (.seq (.rg [o1 5 (.copy 1),
   o1 6 (.copy 0),
   o1 7 (.len 6),
   o1 8 (.data (.bin .sub) [.t 5, .t 7]),
   o1 1 (.copy 8)])
 (.seq (.seq (.rg [o1 9 (.copy 1),
   o1 10 (.data (.bin .lss) [.t 9, .c (.int .i64 (0))])])
 (.cond (.t 10)
  (.seq (.rg [o1 4 (.lit [.i .i64] [.int .i64 (-1)])])
  .ret)
  .skip))
 (.seq (.rg [o1 11 (.copy 1),
   o1 4 (.copy 11)])
 .ret))))
def s_lszIntS : Sig := ⟨[.rd false [.sl (.own none) [.d]], .rd false [.d]], (.one false [.d])⟩
noncomputable def E_lszIntS : TEnv := envOf []
noncomputable def f_lszIntS (n : Nat) : List (Int) × Int → Option ((Int) × Unit) := runFn n E_lszIntS c_lszIntS [[.sl [.i .i64]], [.i .i64]] [.i .i64] [] [4] .no
noncomputable def g_lszIntS := f_lszIntS BIG
noncomputable def p_lszIntS : TSp := ⟨s_lszIntS, [[.sl [.i .i64]], [.i .i64]], [.i .i64], [], Ou.j .no, g_lszIntS⟩
theorem k_lszIntS : chkW PG E_lszIntS 166 s_lszIntS (c_lszIntS.ht 12) .no = some (c_lszIntS.wc E_lszIntS, [4]) := by kernel_rfl
theorem ok_lszIntS : p_lszIntS.Ok PG 166 := mkOk (env_nil PG) k_lszIntS (by kernel_rfl)
theorem e_lszIntS (n : Nat) (a0 : List (Int)) (a1 : Int) : f_lszIntS n (a0, a1) =
  bif decide ((IntKind.wrap .i64 (a1 - (a0.length : Int))) < (0 : Int)) then
   some ((-1 : Int), ())
  else some (IntKind.wrap .i64 (a1 - (a0.length : Int)), ()) := by kernel_rfl
/- laws.szEdgeS -/
def c_lszEdgeS : TC :=
 (.seq (.rg [o1 4 (.lit [.i .i64] [.int .i64 (0)])])
 (.seq (.rg [o1 5 (.copy 1),
   o1 6 (.copy 0),
   o1 7 (.len 6),
   o1 8 (.data (.bin .sub) [.t 5, .t 7]),
   o1 1 (.copy 8)])
 (.seq (.seq (.rg [o1 9 (.copy 1),
   o1 10 (.data (.bin .lss) [.t 9, .c (.int .i64 (0))])])
 (.cond (.t 10)
  (.seq (.rg [o1 4 (.lit [.i .i64] [.int .i64 (-1)])])
  .ret)
  .skip))
 (.seq (.rg [o1 11 (.copy 1),
   o1 4 (.copy 11)])
 .ret))))
def s_lszEdgeS : Sig := ⟨[.rd false [.sl (.own none) [.d, .d]], .rd false [.d]], (.one false [.d])⟩
noncomputable def E_lszEdgeS : TEnv := envOf []
noncomputable def f_lszEdgeS (n : Nat) : (List (Int × Int)) × Int → Option ((Int) × Unit) := runFn n E_lszEdgeS c_lszEdgeS [[.sl [.i .i64, .i .i64]], [.i .i64]] [.i .i64] [] [4] .no
noncomputable def g_lszEdgeS := f_lszEdgeS BIG
noncomputable def p_lszEdgeS : TSp := ⟨s_lszEdgeS, [[.sl [.i .i64, .i .i64]], [.i .i64]], [.i .i64], [], Ou.j .no, g_lszEdgeS⟩
theorem k_lszEdgeS : chkW PG E_lszEdgeS 34 s_lszEdgeS (c_lszEdgeS.ht 12) .no = some (c_lszEdgeS.wc E_lszEdgeS, [4]) := by kernel_rfl
theorem ok_lszEdgeS : p_lszEdgeS.Ok PG 34 := mkOk (env_nil PG) k_lszEdgeS (by kernel_rfl)
theorem e_lszEdgeS (n : Nat) (a0 : List (Int × Int)) (a1 : Int) : f_lszEdgeS n (a0, a1) =
  bif decide ((IntKind.wrap .i64 (a1 - (a0.length : Int))) < (0 : Int)) then
   some ((-1 : Int), ())
  else some (IntKind.wrap .i64 (a1 - (a0.length : Int)), ()) := by kernel_rfl
/- laws.szIntSS -/
def c_lszIntSS : TC :=
 (.seq (.rg [o1 4 (.lit [.i .i64] [.int .i64 (0)])])
 (.seq (.rg [o1 6 (.copy 1),
   o1 7 (.copy 0),
   o1 8 (.len 7),
   o1 9 (.data (.bin .sub) [.t 6, .t 8]),
   o1 1 (.copy 9)])
 (.seq (.seq (.rg [o1 10 (.copy 1),
   o1 11 (.data (.bin .lss) [.t 10, .c (.int .i64 (0))])])
 (.cond (.t 11)
  (.seq (.rg [o1 4 (.lit [.i .i64] [.int .i64 (-1)])])
  .ret)
  .skip))
 (.seq (.join [⟨1, [.i .i64], false⟩] 67104818 (some [⟨4, [.i .i64], false⟩]) (.seq (.rg [o1 5 (.lit [.i .i64] [.int .i64 (0)])])
 (.block 0 (.loop [⟨1, [.i .i64], false⟩, ⟨5, [.i .i64], false⟩] 67104818
  (.seq (.seq (.rg [o1 12 (.copy 5),
    o1 13 (.copy 0),
    o1 14 (.len 13),
    o1 15 (.data (.bin .lss) [.t 12, .t 14])])
  (.cond (.t 15)
   .skip
   (.exit 0)))
  (.seq (.block 1 (.seq (.rg [o1 18 (.copy 0),
    o1 19 (.copy 5),
    o1 20 (.index 18 (.t 19)),
    o1 21 (.load 18 [(0, 1)] 0 (.t 20) 1 false),
    o1 22 (.copy 1),
    o3 23 166 [.t 21, .t 22],
    o1 1 (.copy 23)])
  (.seq (.rg [o1 24 (.copy 1),
    o1 25 (.data (.bin .lss) [.t 24, .c (.int .i64 (0))])])
  (.cond (.t 25)
   (.seq (.rg [o1 4 (.lit [.i .i64] [.int .i64 (-1)])])
   .ret)
   .skip))))
  (.rg [o1 16 (.copy 5),
    o1 17 (.data (.bin .add) [.t 16, .c (.int .i64 (1))]),
    o1 5 (.copy 17)])))))))
 (.seq (.rg [o1 26 (.copy 1),
   o1 4 (.copy 26)])
 .ret)))))
def s_lszIntSS : Sig := ⟨[.rd false [.sl (.own none) [.sl (.own none) [.d]]], .rd false [.d]], (.one false [.d])⟩
noncomputable def E_lszIntSS : TEnv := envOf [(166, p_lszIntS)]
noncomputable def f_lszIntSS (n : Nat) : List (List (Int)) × Int → Option ((Int) × Unit) := runFn n E_lszIntSS c_lszIntSS [[.sl [.sl [.i .i64]]], [.i .i64]] [.i .i64] [] [4] .no
noncomputable def g_lszIntSS := f_lszIntSS BIG
noncomputable def p_lszIntSS : TSp := ⟨s_lszIntSS, [[.sl [.sl [.i .i64]]], [.i .i64]], [.i .i64], [], Ou.j .no, g_lszIntSS⟩
theorem k_lszIntSS : chkW PG E_lszIntSS 33 s_lszIntSS (c_lszIntSS.ht 27) .no = some (c_lszIntSS.wc E_lszIntSS, [4]) := by kernel_rfl
theorem ok_lszIntSS : p_lszIntSS.Ok PG 33 := mkOk (env_cons ok_lszIntS (env_nil PG)) k_lszIntSS (by kernel_rfl)
theorem e_lszIntSS (n : Nat) (a0 : List ((List (Int)))) (a1 : Int) : f_lszIntSS n (a0, a1) =
  bif decide ((IntKind.wrap .i64 (a1 - (a0.length : Int))) < (0 : Int)) then
   some ((-1 : Int), ())
  else Option.bind (loopT n (X := Int × Int) (B := (Int) ⊕ (Int)) (fun self1 x0 =>
    bif decide (x0.2 < (a0.length : Int)) then
     bnd a0.length x0.2 fun n2 =>
     Option.bind a0[n2]? fun y3 =>
     Option.bind (g_lszIntS (y3, x0.1)) fun r4 =>
     bif decide (r4.1 < (0 : Int)) then
      some (Sum.inr (-1 : Int))
     else self1 (r4.1, IntKind.wrap .i64 (x0.2 + (1 : Int)))
    else some (Sum.inl x0.1)) (IntKind.wrap .i64 (a1 - (a0.length : Int)), (0 : Int)) : Option ((Int) ⊕ (Int))) fun y => match y with
  | .inl x5 =>
   some (x5, ())
  | .inr x5 =>
   some (x5, ()) := by kernel_rfl
/- laws.szOrder -/
def c_lszOrder : TC :=
 (.seq (.rg [o1 2 (.a (.t 0)),
   o1 4 (.lit [.i .i64] [.int .i64 (0)])])
 (.seq (.rg [o1 5 (.idx .nil),
   o1 6 (.load 2 [] 2 (.t 5) 1 false),
   o1 7 (.copy 1),
   o3 8 34 [.t 6, .t 7],
   o1 1 (.copy 8)])
 (.seq (.seq (.rg [o1 9 (.copy 1),
   o1 10 (.data (.bin .lss) [.t 9, .c (.int .i64 (0))])])
 (.cond (.t 10)
  (.seq (.rg [o1 4 (.lit [.i .i64] [.int .i64 (-1)])])
  .ret)
  .skip))
 (.seq (.rg [o1 11 (.copy 1),
   o1 4 (.copy 11)])
 .ret))))
def s_lszOrder : Sig := ⟨[.rd true [.d, .d, .sl (.own none) [.d, .d], .d], .rd false [.d]], (.one false [.d])⟩
noncomputable def E_lszOrder : TEnv := envOf [(34, p_lszEdgeS)]
noncomputable def f_lszOrder (n : Nat) : (Int × Int × List (Int × Int) × Int) × Int → Option ((Int) × Unit) := runFn n E_lszOrder c_lszOrder [[.i .i64, .i .i64, .sl [.i .i64, .i .i64], .i .i64], [.i .i64]] [.i .i64] [] [4] .no
noncomputable def g_lszOrder := f_lszOrder BIG
noncomputable def p_lszOrder : TSp := ⟨s_lszOrder, [[.i .i64, .i .i64, .sl [.i .i64, .i .i64], .i .i64], [.i .i64]], [.i .i64], [], Ou.j .no, g_lszOrder⟩
theorem k_lszOrder : chkW PG E_lszOrder 229 s_lszOrder (c_lszOrder.ht 12) .no = some (c_lszOrder.wc E_lszOrder, [4]) := by kernel_rfl
theorem ok_lszOrder : p_lszOrder.Ok PG 229 := mkOk (env_cons ok_lszEdgeS (env_nil PG)) k_lszOrder (by kernel_rfl)
theorem e_lszOrder (n : Nat) (a0 : Int × Int × List (Int × Int) × Int) (a1 : Int) : f_lszOrder n (a0, a1) =
  Option.bind (g_lszEdgeS (a0.2.2.1, a1)) fun r0 =>
  bif decide (r0.1 < (0 : Int)) then
   some ((-1 : Int), ())
  else some (r0.1, ()) := by kernel_rfl
/- laws.szTask -/
def c_lszTask : TC :=
 (.seq (.rg [o1 2 (.a (.t 0)),
   o1 4 (.lit [.i .i64] [.int .i64 (0)])])
 (.seq (.rg [o1 5 (.idx .nil),
   o1 6 (.load 2 [] 5 (.t 5) 4 false),
   o1 7 (.copy 1),
   o3 8 229 [.t 6, .t 7],
   o1 1 (.copy 8)])
 (.seq (.seq (.rg [o1 9 (.copy 1),
   o1 10 (.data (.bin .lss) [.t 9, .c (.int .i64 (0))])])
 (.cond (.t 10)
  (.seq (.rg [o1 4 (.lit [.i .i64] [.int .i64 (-1)])])
  .ret)
  .skip))
 (.seq (.rg [o1 11 (.copy 1),
   o1 4 (.copy 11)])
 .ret))))
def s_lszTask : Sig := ⟨[.rd true [.d, .d, .d, .d, .d, .d, .d, .sl (.own none) [.d, .d], .d], .rd false [.d]], (.one false [.d])⟩
noncomputable def E_lszTask : TEnv := envOf [(229, p_lszOrder)]
noncomputable def f_lszTask (n : Nat) : (Int × Int × Int × Int × Int × Int × Int × List (Int × Int) × Int) × Int → Option ((Int) × Unit) := runFn n E_lszTask c_lszTask [[.i .i64, .i .i64, .i .i64, .i .i64, .i .i64, .i .i64, .i .i64, .sl [.i .i64, .i .i64], .i .i64], [.i .i64]] [.i .i64] [] [4] .no
noncomputable def g_lszTask := f_lszTask BIG
noncomputable def p_lszTask : TSp := ⟨s_lszTask, [[.i .i64, .i .i64, .i .i64, .i .i64, .i .i64, .i .i64, .i .i64, .sl [.i .i64, .i .i64], .i .i64], [.i .i64]], [.i .i64], [], Ou.j .no, g_lszTask⟩
theorem k_lszTask : chkW PG E_lszTask 197 s_lszTask (c_lszTask.ht 12) .no = some (c_lszTask.wc E_lszTask, [4]) := by kernel_rfl
theorem ok_lszTask : p_lszTask.Ok PG 197 := mkOk (env_cons ok_lszOrder (env_nil PG)) k_lszTask (by kernel_rfl)
theorem e_lszTask (n : Nat) (a0 : Int × Int × Int × Int × Int × Int × Int × List (Int × Int) × Int) (a1 : Int) : f_lszTask n (a0, a1) =
  Option.bind (g_lszOrder (a0.2.2.2.2.2, a1)) fun r0 =>
  bif decide (r0.1 < (0 : Int)) then
   some ((-1 : Int), ())
  else some (r0.1, ()) := by kernel_rfl
/- laws.szSaidS -/
def c_lszSaidS : TC :=
 (.seq (.rg [o1 4 (.lit [.i .i64] [.int .i64 (0)])])
 (.seq (.rg [o1 5 (.copy 1),
   o1 6 (.copy 0),
   o1 7 (.len 6),
   o1 8 (.data (.bin .sub) [.t 5, .t 7]),
   o1 1 (.copy 8)])
 (.seq (.seq (.rg [o1 9 (.copy 1),
   o1 10 (.data (.bin .lss) [.t 9, .c (.int .i64 (0))])])
 (.cond (.t 10)
  (.seq (.rg [o1 4 (.lit [.i .i64] [.int .i64 (-1)])])
  .ret)
  .skip))
 (.seq (.rg [o1 11 (.copy 1),
   o1 4 (.copy 11)])
 .ret))))
def s_lszSaidS : Sig := ⟨[.rd false [.sl (.own none) [.d, .d, .d, .d, .d, .d]], .rd false [.d]], (.one false [.d])⟩
noncomputable def E_lszSaidS : TEnv := envOf []
noncomputable def f_lszSaidS (n : Nat) : (List (Int × Int × Int × Int × Int × Int)) × Int → Option ((Int) × Unit) := runFn n E_lszSaidS c_lszSaidS [[.sl [.i .i64, .i .i64, .i .i64, .i .i64, .i .i64, .i .i64]], [.i .i64]] [.i .i64] [] [4] .no
noncomputable def g_lszSaidS := f_lszSaidS BIG
noncomputable def p_lszSaidS : TSp := ⟨s_lszSaidS, [[.sl [.i .i64, .i .i64, .i .i64, .i .i64, .i .i64, .i .i64]], [.i .i64]], [.i .i64], [], Ou.j .no, g_lszSaidS⟩
theorem k_lszSaidS : chkW PG E_lszSaidS 83 s_lszSaidS (c_lszSaidS.ht 12) .no = some (c_lszSaidS.wc E_lszSaidS, [4]) := by kernel_rfl
theorem ok_lszSaidS : p_lszSaidS.Ok PG 83 := mkOk (env_nil PG) k_lszSaidS (by kernel_rfl)
theorem e_lszSaidS (n : Nat) (a0 : List (Int × Int × Int × Int × Int × Int)) (a1 : Int) : f_lszSaidS n (a0, a1) =
  bif decide ((IntKind.wrap .i64 (a1 - (a0.length : Int))) < (0 : Int)) then
   some ((-1 : Int), ())
  else some (IntKind.wrap .i64 (a1 - (a0.length : Int)), ()) := by kernel_rfl
/- laws.szHead -/
def c_lszHead : TC :=
 (.seq (.rg [o1 2 (.a (.t 0)),
   o1 4 (.lit [.i .i64] [.int .i64 (0)])])
 (.seq (.rg [o1 5 (.idx .nil),
   o1 6 (.load 2 [] 1 (.t 5) 1 false),
   o1 7 (.copy 1),
   o3 8 166 [.t 6, .t 7],
   o1 1 (.copy 8)])
 (.seq (.seq (.rg [o1 9 (.copy 1),
   o1 10 (.data (.bin .lss) [.t 9, .c (.int .i64 (0))])])
 (.cond (.t 10)
  (.seq (.rg [o1 4 (.lit [.i .i64] [.int .i64 (-1)])])
  .ret)
  .skip))
 (.seq (.rg [o1 11 (.idx .nil),
   o1 12 (.load 2 [] 2 (.t 11) 1 false),
   o1 13 (.copy 1),
   o3 14 34 [.t 12, .t 13],
   o1 1 (.copy 14)])
 (.seq (.seq (.rg [o1 15 (.copy 1),
   o1 16 (.data (.bin .lss) [.t 15, .c (.int .i64 (0))])])
 (.cond (.t 16)
  (.seq (.rg [o1 4 (.lit [.i .i64] [.int .i64 (-1)])])
  .ret)
  .skip))
 (.seq (.rg [o1 17 (.idx .nil),
   o1 18 (.load 2 [] 3 (.t 17) 1 false),
   o1 19 (.copy 1),
   o3 20 33 [.t 18, .t 19],
   o1 1 (.copy 20)])
 (.seq (.seq (.rg [o1 21 (.copy 1),
   o1 22 (.data (.bin .lss) [.t 21, .c (.int .i64 (0))])])
 (.cond (.t 22)
  (.seq (.rg [o1 4 (.lit [.i .i64] [.int .i64 (-1)])])
  .ret)
  .skip))
 (.seq (.rg [o1 23 (.idx .nil),
   o1 24 (.load 2 [] 4 (.t 23) 1 false),
   o1 25 (.copy 1),
   o3 26 166 [.t 24, .t 25],
   o1 1 (.copy 26)])
 (.seq (.seq (.rg [o1 27 (.copy 1),
   o1 28 (.data (.bin .lss) [.t 27, .c (.int .i64 (0))])])
 (.cond (.t 28)
  (.seq (.rg [o1 4 (.lit [.i .i64] [.int .i64 (-1)])])
  .ret)
  .skip))
 (.seq (.rg [o1 29 (.idx .nil),
   o1 30 (.load 2 [] 5 (.t 29) 9 false),
   o1 31 (.copy 1),
   o3 32 197 [.t 30, .t 31],
   o1 1 (.copy 32)])
 (.seq (.seq (.rg [o1 33 (.copy 1),
   o1 34 (.data (.bin .lss) [.t 33, .c (.int .i64 (0))])])
 (.cond (.t 34)
  (.seq (.rg [o1 4 (.lit [.i .i64] [.int .i64 (-1)])])
  .ret)
  .skip))
 (.seq (.rg [o1 35 (.idx .nil),
   o1 36 (.load 2 [] 14 (.t 35) 1 false),
   o1 37 (.copy 1),
   o3 38 83 [.t 36, .t 37],
   o1 1 (.copy 38)])
 (.seq (.seq (.rg [o1 39 (.copy 1),
   o1 40 (.data (.bin .lss) [.t 39, .c (.int .i64 (0))])])
 (.cond (.t 40)
  (.seq (.rg [o1 4 (.lit [.i .i64] [.int .i64 (-1)])])
  .ret)
  .skip))
 (.seq (.rg [o1 41 (.copy 1),
   o1 4 (.copy 41)])
 .ret))))))))))))))
def s_lszHead : Sig := ⟨[.rd true [.d, .sl (.own none) [.d], .sl (.own none) [.d, .d], .sl (.own none) [.sl (.own none) [.d]], .sl (.own none) [.d], .d, .d, .d, .d, .d, .d, .d, .sl (.own none) [.d, .d], .d, .sl (.own none) [.d, .d, .d, .d, .d, .d]], .rd false [.d]], (.one false [.d])⟩
noncomputable def E_lszHead : TEnv := envOf [(166, p_lszIntS), (34, p_lszEdgeS), (33, p_lszIntSS), (197, p_lszTask), (83, p_lszSaidS)]
noncomputable def f_lszHead (n : Nat) : (Int × List (Int) × List (Int × Int) × List (List (Int)) × List (Int) × Int × Int × Int × Int × Int × Int × Int × List (Int × Int) × Int × List (Int × Int × Int × Int × Int × Int)) × Int → Option ((Int) × Unit) := runFn n E_lszHead c_lszHead [[.i .i64, .sl [.i .i64], .sl [.i .i64, .i .i64], .sl [.sl [.i .i64]], .sl [.i .i64], .i .i64, .i .i64, .i .i64, .i .i64, .i .i64, .i .i64, .i .i64, .sl [.i .i64, .i .i64], .i .i64, .sl [.i .i64, .i .i64, .i .i64, .i .i64, .i .i64, .i .i64]], [.i .i64]] [.i .i64] [] [4] .no
noncomputable def g_lszHead := f_lszHead BIG
noncomputable def p_lszHead : TSp := ⟨s_lszHead, [[.i .i64, .sl [.i .i64], .sl [.i .i64, .i .i64], .sl [.sl [.i .i64]], .sl [.i .i64], .i .i64, .i .i64, .i .i64, .i .i64, .i .i64, .i .i64, .i .i64, .sl [.i .i64, .i .i64], .i .i64, .sl [.i .i64, .i .i64, .i .i64, .i .i64, .i .i64, .i .i64]], [.i .i64]], [.i .i64], [], Ou.j .no, g_lszHead⟩
theorem k_lszHead : chkW PG E_lszHead 64 s_lszHead (c_lszHead.ht 42) .no = some (c_lszHead.wc E_lszHead, [4]) := by kernel_rfl
theorem ok_lszHead : p_lszHead.Ok PG 64 := mkOk (env_cons ok_lszIntS (env_cons ok_lszEdgeS (env_cons ok_lszIntSS (env_cons ok_lszTask (env_cons ok_lszSaidS (env_nil PG)))))) k_lszHead (by kernel_rfl)
theorem e_lszHead (n : Nat) (a0 : Int × List (Int) × List (Int × Int) × List ((List (Int))) × List (Int) × Int × Int × Int × Int × Int × Int × Int × List (Int × Int) × Int × List (Int × Int × Int × Int × Int × Int)) (a1 : Int) : f_lszHead n (a0, a1) =
  Option.bind (g_lszIntS (a0.2.1, a1)) fun r0 =>
  bif decide (r0.1 < (0 : Int)) then
   some ((-1 : Int), ())
  else Option.bind (g_lszEdgeS (a0.2.2.1, r0.1)) fun r1 =>
  bif decide (r1.1 < (0 : Int)) then
   some ((-1 : Int), ())
  else Option.bind (g_lszIntSS (a0.2.2.2.1, r1.1)) fun r2 =>
  bif decide (r2.1 < (0 : Int)) then
   some ((-1 : Int), ())
  else Option.bind (g_lszIntS (a0.2.2.2.2.1, r2.1)) fun r3 =>
  bif decide (r3.1 < (0 : Int)) then
   some ((-1 : Int), ())
  else Option.bind (g_lszTask ((a0.2.2.2.2.2.1, a0.2.2.2.2.2.2.1, a0.2.2.2.2.2.2.2.1, a0.2.2.2.2.2.2.2.2.1, a0.2.2.2.2.2.2.2.2.2.1, a0.2.2.2.2.2.2.2.2.2.2.1, a0.2.2.2.2.2.2.2.2.2.2.2.1, a0.2.2.2.2.2.2.2.2.2.2.2.2.1, a0.2.2.2.2.2.2.2.2.2.2.2.2.2.1), r3.1)) fun r4 =>
  bif decide (r4.1 < (0 : Int)) then
   some ((-1 : Int), ())
  else Option.bind (g_lszSaidS (a0.2.2.2.2.2.2.2.2.2.2.2.2.2.2, r4.1)) fun r5 =>
  bif decide (r5.1 < (0 : Int)) then
   some ((-1 : Int), ())
  else some (r5.1, ()) := by kernel_rfl
/- laws.toIntS -/
def c_ltoIntS : TC :=
 (.seq (.rg [o1 2 (.lit [.sl [.i .i64]] [.slice none 0 0])])
 (.seq (.rg [o1 5 (.copy 0),
   o1 6 (.len 5),
   o1 7 (.make (.t 6) [.i .i64]),
   ⟨false, [], [], .det 2 (.copy 7), [3, 7], (some 3), none⟩])
 (.seq (.join [⟨3, [.sl [.i .i64]], false⟩] 2096920 none (.seq (.rg [o1 4 (.lit [.i .i64] [.int .i64 (0)])])
 (.block 0 (.loop [⟨3, [.sl [.i .i64]], false⟩, ⟨4, [.i .i64], false⟩] 2096920
  (.seq (.seq (.rg [o1 8 (.copy 4),
    o1 9 (.copy 0),
    o1 10 (.len 9),
    o1 11 (.data (.bin .lss) [.t 8, .t 10])])
  (.cond (.t 11)
   .skip
   (.exit 0)))
  (.seq (.block 1 (.rg [⟨true, [], [], .det 1 (.copy 3), [14], (some 14), none⟩,
    o1 15 (.copy 4),
    o1 16 (.copy 0),
    o1 17 (.copy 4),
    o1 18 (.index 16 (.t 17)),
    o1 19 (.load 16 [(0, 1)] 0 (.t 18) 1 false),
    o1 20 (.index 14 (.t 15)),
    o4 1 [3, 14] (.store 3 [(0, 1)] 0 (.t 20) (.t 19))]))
  (.rg [o1 12 (.copy 4),
    o1 13 (.data (.bin .add) [.t 12, .c (.int .i64 (1))]),
    o1 4 (.copy 13)])))))))
 (.seq (.rg [⟨false, [], [], .det 2 (.copy 3), [21, 3], (some 21), none⟩,
   ⟨false, [], [], .det 2 (.copy 21), [2, 21], (some 2), none⟩])
 .ret))))
def s_ltoIntS : Sig := ⟨[.rd false [.sl (.own none) [.d]]], (.one false [.sl (.own none) [.d]])⟩
noncomputable def E_ltoIntS : TEnv := envOf []
noncomputable def f_ltoIntS (n : Nat) : List (Int) → Option ((List (Int)) × Unit) := runFn n E_ltoIntS c_ltoIntS [[.sl [.i .i64]]] [.sl [.i .i64]] [] [2] .no
noncomputable def g_ltoIntS := f_ltoIntS BIG
noncomputable def p_ltoIntS : TSp := ⟨s_ltoIntS, [[.sl [.i .i64]]], [.sl [.i .i64]], [], Ou.j .no, g_ltoIntS⟩
theorem k_ltoIntS : chkW PG E_ltoIntS 169 s_ltoIntS (c_ltoIntS.ht 22) .no = some (c_ltoIntS.wc E_ltoIntS, [2]) := by kernel_rfl
theorem ok_ltoIntS : p_ltoIntS.Ok PG 169 := mkOk (env_nil PG) k_ltoIntS (by kernel_rfl)
theorem e_ltoIntS (n : Nat) (a0 : List (Int)) : f_ltoIntS n a0 =
  bif decide (0 ≤ (a0.length : Int)) then
   bif decide ((Int.toNat (a0.length : Int)) ≤ 4294967296) then
    Option.bind (loopT n (X := (List (Int)) × Int) (B := (List (Int))) (fun self1 x0 =>
      bif decide (x0.2 < (a0.length : Int)) then
       bnd a0.length x0.2 fun n2 =>
       Option.bind a0[n2]? fun y3 =>
       bnd x0.1.length x0.2 fun n4 =>
       Option.bind x0.1[n4]? fun y5 =>
       self1 (x0.1.set n4 y3, IntKind.wrap .i64 (x0.2 + (1 : Int)))
      else some x0.1) (List.replicate (Int.toNat (a0.length : Int)) (0 : Int), (0 : Int)) : Option ((List (Int)))) fun x6 =>
    some (x6, ())
   else none
  else none := by kernel_rfl
/- laws.toEdge -/
def c_ltoEdge : TC :=
 (.seq (.rg [o1 1 (.a (.t 0)),
   ⟨false, [], [], .det 2 (.a (.c [.i .i64, .i .i64] [.int .i64 (0), .int .i64 (0)])), [2, 1000000001], (some 2), none⟩])
 (.seq (.rg [⟨false, [], [], .det 2 (.a (.c [.i .i64, .i .i64] [.int .i64 (0), .int .i64 (0)])), [3, 1000000001], (some 3), none⟩])
 (.seq (.rg [o1 4 (.idx .nil),
   o1 5 (.load 1 [] 0 (.t 4) 1 false),
   o1 6 (.idx .nil),
   o4 1 [3] (.store 3 [] 0 (.t 6) (.t 5))])
 (.seq (.rg [o1 7 (.idx .nil),
   o1 8 (.load 1 [] 1 (.t 7) 1 false),
   o1 9 (.idx .nil),
   o4 1 [3] (.store 3 [] 1 (.t 9) (.t 8))])
 (.seq (.rg [o1 10 (.load 3 [] 0 .nil 2 false),
   o4 1 [2] (.store 2 [] 0 .nil (.t 10))])
 .ret)))))
def s_ltoEdge : Sig := ⟨[.rd true [.d, .d]], (.one true [.d, .d])⟩
noncomputable def E_ltoEdge : TEnv := envOf []
noncomputable def f_ltoEdge (n : Nat) : (Int × Int) → Option ((Int × Int) × Unit) := runFn n E_ltoEdge c_ltoEdge [[.i .i64, .i .i64]] [.i .i64, .i .i64] [] [2] .no
noncomputable def g_ltoEdge := f_ltoEdge BIG
noncomputable def p_ltoEdge : TSp := ⟨s_ltoEdge, [[.i .i64, .i .i64]], [.i .i64, .i .i64], [], Ou.j .no, g_ltoEdge⟩
theorem k_ltoEdge : chkW PG E_ltoEdge 170 s_ltoEdge (c_ltoEdge.ht 11) .no = some (c_ltoEdge.wc E_ltoEdge, [2]) := by kernel_rfl
theorem ok_ltoEdge : p_ltoEdge.Ok PG 170 := mkOk (env_nil PG) k_ltoEdge (by kernel_rfl)
theorem e_ltoEdge (n : Nat) (a0 : Int × Int) : f_ltoEdge n a0 =
  some (a0, ()) := by kernel_rfl
/- laws.toEdgeS -/
def c_ltoEdgeS : TC :=
 (.seq (.rg [o1 2 (.lit [.sl [.i .i64, .i .i64]] [.slice none 0 0])])
 (.seq (.rg [o1 5 (.copy 0),
   o1 6 (.len 5),
   o1 7 (.make (.t 6) [.i .i64, .i .i64]),
   ⟨false, [], [], .det 2 (.copy 7), [3, 7], (some 3), none⟩])
 (.seq (.join [⟨3, [.sl [.i .i64, .i .i64]], false⟩] 4194072 none (.seq (.rg [o1 4 (.lit [.i .i64] [.int .i64 (0)])])
 (.block 0 (.loop [⟨3, [.sl [.i .i64, .i .i64]], false⟩, ⟨4, [.i .i64], false⟩] 4194072
  (.seq (.seq (.rg [o1 8 (.copy 4),
    o1 9 (.copy 0),
    o1 10 (.len 9),
    o1 11 (.data (.bin .lss) [.t 8, .t 10])])
  (.cond (.t 11)
   .skip
   (.exit 0)))
  (.seq (.block 1 (.rg [⟨true, [], [], .det 1 (.copy 3), [14], (some 14), none⟩,
    o1 15 (.copy 4),
    o1 16 (.copy 0),
    o1 17 (.copy 4),
    o1 18 (.index 16 (.t 17)),
    o1 19 (.load 16 [(0, 2)] 0 (.t 18) 2 false),
    o3 20 170 [.t 19],
    o1 21 (.index 14 (.t 15)),
    o4 1 [3, 14] (.store 3 [(0, 2)] 0 (.t 21) (.t 20))]))
  (.rg [o1 12 (.copy 4),
    o1 13 (.data (.bin .add) [.t 12, .c (.int .i64 (1))]),
    o1 4 (.copy 13)])))))))
 (.seq (.rg [⟨false, [], [], .det 2 (.copy 3), [22, 3], (some 22), none⟩,
   ⟨false, [], [], .det 2 (.copy 22), [2, 22], (some 2), none⟩])
 .ret))))
def s_ltoEdgeS : Sig := ⟨[.rd false [.sl (.own none) [.d, .d]]], (.one false [.sl (.own none) [.d, .d]])⟩
noncomputable def E_ltoEdgeS : TEnv := envOf [(170, p_ltoEdge)]
noncomputable def f_ltoEdgeS (n : Nat) : (List (Int × Int)) → Option ((List (Int × Int)) × Unit) := runFn n E_ltoEdgeS c_ltoEdgeS [[.sl [.i .i64, .i .i64]]] [.sl [.i .i64, .i .i64]] [] [2] .no
noncomputable def g_ltoEdgeS := f_ltoEdgeS BIG
noncomputable def p_ltoEdgeS : TSp := ⟨s_ltoEdgeS, [[.sl [.i .i64, .i .i64]]], [.sl [.i .i64, .i .i64]], [], Ou.j .no, g_ltoEdgeS⟩
theorem k_ltoEdgeS : chkW PG E_ltoEdgeS 37 s_ltoEdgeS (c_ltoEdgeS.ht 23) .no = some (c_ltoEdgeS.wc E_ltoEdgeS, [2]) := by kernel_rfl
theorem ok_ltoEdgeS : p_ltoEdgeS.Ok PG 37 := mkOk (env_cons ok_ltoEdge (env_nil PG)) k_ltoEdgeS (by kernel_rfl)
theorem e_ltoEdgeS (n : Nat) (a0 : List (Int × Int)) : f_ltoEdgeS n a0 =
  bif decide (0 ≤ (a0.length : Int)) then
   bif decide ((Int.toNat (a0.length : Int)) ≤ 4294967296) then
    Option.bind (loopT n (X := (List (Int × Int)) × Int) (B := (List (Int × Int))) (fun self1 x0 =>
      bif decide (x0.2 < (a0.length : Int)) then
       bnd a0.length x0.2 fun n2 =>
       Option.bind a0[n2]? fun y3 =>
       Option.bind (g_ltoEdge y3) fun r4 =>
       bnd x0.1.length x0.2 fun n5 =>
       Option.bind x0.1[n5]? fun y6 =>
       self1 (x0.1.set n5 r4.1, IntKind.wrap .i64 (x0.2 + (1 : Int)))
      else some x0.1) (List.replicate (Int.toNat (a0.length : Int)) ((0 : Int), (0 : Int)), (0 : Int)) : Option ((List (Int × Int)))) fun x7 =>
    some (x7, ())
   else none
  else none := by kernel_rfl
/- laws.toIntSS -/
def c_ltoIntSS : TC :=
 (.seq (.rg [o1 2 (.lit [.sl [.sl [.i .i64]]] [.slice none 0 0])])
 (.seq (.rg [o1 5 (.copy 0),
   o1 6 (.len 5),
   o1 7 (.make (.t 6) [.sl [.i .i64]]),
   ⟨false, [], [], .det 2 (.copy 7), [3, 7], (some 3), none⟩])
 (.seq (.join [⟨3, [.sl [.sl [.i .i64]]], false⟩] 4194072 none (.seq (.rg [o1 4 (.lit [.i .i64] [.int .i64 (0)])])
 (.block 0 (.loop [⟨3, [.sl [.sl [.i .i64]]], false⟩, ⟨4, [.i .i64], false⟩] 4194072
  (.seq (.seq (.rg [o1 8 (.copy 4),
    o1 9 (.copy 0),
    o1 10 (.len 9),
    o1 11 (.data (.bin .lss) [.t 8, .t 10])])
  (.cond (.t 11)
   .skip
   (.exit 0)))
  (.seq (.block 1 (.rg [⟨true, [], [], .det 1 (.copy 3), [14], (some 14), none⟩,
    o1 15 (.copy 4),
    o1 16 (.copy 0),
    o1 17 (.copy 4),
    o1 18 (.index 16 (.t 17)),
    o1 19 (.load 16 [(0, 1)] 0 (.t 18) 1 false),
    o3 20 169 [.t 19],
    o1 21 (.index 14 (.t 15)),
    o4 2 [3, 20, 21, 14] (.store 3 [(0, 1)] 0 (.t 21) (.t 20))]))
  (.rg [o1 12 (.copy 4),
    o1 13 (.data (.bin .add) [.t 12, .c (.int .i64 (1))]),
    o1 4 (.copy 13)])))))))
 (.seq (.rg [⟨false, [], [], .det 2 (.copy 3), [22, 3], (some 22), none⟩,
   ⟨false, [], [], .det 2 (.copy 22), [2, 22], (some 2), none⟩])
 .ret))))
def s_ltoIntSS : Sig := ⟨[.rd false [.sl (.own none) [.sl (.own none) [.d]]]], (.one false [.sl (.own none) [.sl (.own none) [.d]]])⟩
noncomputable def E_ltoIntSS : TEnv := envOf [(169, p_ltoIntS)]
noncomputable def f_ltoIntSS (n : Nat) : List (List (Int)) → Option ((List (List (Int))) × Unit) := runFn n E_ltoIntSS c_ltoIntSS [[.sl [.sl [.i .i64]]]] [.sl [.sl [.i .i64]]] [] [2] .no
noncomputable def g_ltoIntSS := f_ltoIntSS BIG
noncomputable def p_ltoIntSS : TSp := ⟨s_ltoIntSS, [[.sl [.sl [.i .i64]]]], [.sl [.sl [.i .i64]]], [], Ou.j .no, g_ltoIntSS⟩
theorem k_ltoIntSS : chkW PG E_ltoIntSS 36 s_ltoIntSS (c_ltoIntSS.ht 23) .no = some (c_ltoIntSS.wc E_ltoIntSS, [2]) := by kernel_rfl
theorem ok_ltoIntSS : p_ltoIntSS.Ok PG 36 := mkOk (env_cons ok_ltoIntS (env_nil PG)) k_ltoIntSS (by kernel_rfl)
theorem e_ltoIntSS (n : Nat) (a0 : List ((List (Int)))) : f_ltoIntSS n a0 =
  bif decide (0 ≤ (a0.length : Int)) then
   bif decide ((Int.toNat (a0.length : Int)) ≤ 4294967296) then
    Option.bind (loopT n (X := (List ((List (Int)))) × Int) (B := (List ((List (Int))))) (fun self1 x0 =>
      bif decide (x0.2 < (a0.length : Int)) then
       bnd a0.length x0.2 fun n2 =>
       Option.bind a0[n2]? fun y3 =>
       Option.bind (g_ltoIntS y3) fun r4 =>
       bnd x0.1.length x0.2 fun n5 =>
       Option.bind x0.1[n5]? fun y6 =>
       self1 (x0.1.set n5 r4.1, IntKind.wrap .i64 (x0.2 + (1 : Int)))
      else some x0.1) (List.replicate (Int.toNat (a0.length : Int)) [], (0 : Int)) : Option ((List ((List (Int)))))) fun x7 =>
    some (x7, ())
   else none
  else none := by kernel_rfl
/- laws.toAsk -/
def c_ltoAsk : TC :=
 (.seq (.rg [o1 1 (.a (.t 0)),
   ⟨false, [], [], .det 2 (.a (.c [.i .i64, .i .i64, .i .i64, .i .i64] [.int .i64 (0), .int .i64 (0), .int .i64 (0), .int .i64 (0)])), [2, 1000000001], (some 2), none⟩])
 (.seq (.rg [⟨false, [], [], .det 2 (.a (.c [.i .i64, .i .i64, .i .i64, .i .i64] [.int .i64 (0), .int .i64 (0), .int .i64 (0), .int .i64 (0)])), [3, 1000000001], (some 3), none⟩])
 (.seq (.rg [o1 4 (.idx .nil),
   o1 5 (.load 1 [] 0 (.t 4) 1 false),
   o1 6 (.idx .nil),
   o4 1 [3] (.store 3 [] 0 (.t 6) (.t 5))])
 (.seq (.rg [o1 7 (.idx .nil),
   o1 8 (.load 1 [] 1 (.t 7) 1 false),
   o1 9 (.idx .nil),
   o4 1 [3] (.store 3 [] 1 (.t 9) (.t 8))])
 (.seq (.rg [o1 10 (.idx .nil),
   o1 11 (.load 1 [] 2 (.t 10) 1 false),
   o1 12 (.idx .nil),
   o4 1 [3] (.store 3 [] 2 (.t 12) (.t 11))])
 (.seq (.rg [o1 13 (.idx .nil),
   o1 14 (.load 1 [] 3 (.t 13) 1 false),
   o1 15 (.idx .nil),
   o4 1 [3] (.store 3 [] 3 (.t 15) (.t 14))])
 (.seq (.rg [o1 16 (.load 3 [] 0 .nil 4 false),
   o4 1 [2] (.store 2 [] 0 .nil (.t 16))])
 .ret)))))))
def s_ltoAsk : Sig := ⟨[.rd true [.d, .d, .d, .d]], (.one true [.d, .d, .d, .d])⟩
noncomputable def E_ltoAsk : TEnv := envOf []
noncomputable def f_ltoAsk (n : Nat) : (Int × Int × Int × Int) → Option ((Int × Int × Int × Int) × Unit) := runFn n E_ltoAsk c_ltoAsk [[.i .i64, .i .i64, .i .i64, .i .i64]] [.i .i64, .i .i64, .i .i64, .i .i64] [] [2] .no
noncomputable def g_ltoAsk := f_ltoAsk BIG
noncomputable def p_ltoAsk : TSp := ⟨s_ltoAsk, [[.i .i64, .i .i64, .i .i64, .i .i64]], [.i .i64, .i .i64, .i .i64, .i .i64], [], Ou.j .no, g_ltoAsk⟩
theorem k_ltoAsk : chkW PG E_ltoAsk 91 s_ltoAsk (c_ltoAsk.ht 17) .no = some (c_ltoAsk.wc E_ltoAsk, [2]) := by kernel_rfl
theorem ok_ltoAsk : p_ltoAsk.Ok PG 91 := mkOk (env_nil PG) k_ltoAsk (by kernel_rfl)
theorem e_ltoAsk (n : Nat) (a0 : Int × Int × Int × Int) : f_ltoAsk n a0 =
  some (a0, ()) := by kernel_rfl
/- laws.toOrder -/
def c_ltoOrder : TC :=
 (.seq (.rg [o1 1 (.a (.t 0)),
   ⟨false, [], [], .det 2 (.a (.c [.i .i64, .i .i64, .sl [.i .i64, .i .i64], .i .i64] [.int .i64 (0), .int .i64 (0), .slice none 0 0, .int .i64 (0)])), [2, 1000000001], (some 2), none⟩])
 (.seq (.rg [⟨false, [], [], .det 2 (.a (.c [.i .i64, .i .i64, .sl [.i .i64, .i .i64], .i .i64] [.int .i64 (0), .int .i64 (0), .slice none 0 0, .int .i64 (0)])), [3, 1000000001], (some 3), none⟩])
 (.seq (.rg [o1 4 (.idx .nil),
   o1 5 (.load 1 [] 0 (.t 4) 1 false),
   o1 6 (.idx .nil),
   o4 1 [3] (.store 3 [] 0 (.t 6) (.t 5))])
 (.seq (.rg [o1 7 (.idx .nil),
   o1 8 (.load 1 [] 1 (.t 7) 1 false),
   o1 9 (.idx .nil),
   o4 1 [3] (.store 3 [] 1 (.t 9) (.t 8))])
 (.seq (.rg [o1 10 (.idx .nil),
   o1 11 (.load 1 [] 2 (.t 10) 1 false),
   o3 12 37 [.t 11],
   o1 13 (.idx .nil),
   o4 2 [3, 12] (.store 3 [] 2 (.t 13) (.t 12))])
 (.seq (.rg [o1 14 (.idx .nil),
   o1 15 (.load 1 [] 3 (.t 14) 1 false),
   o1 16 (.idx .nil),
   o4 1 [3] (.store 3 [] 3 (.t 16) (.t 15))])
 (.seq (.rg [o1 17 (.load 3 [] 0 .nil 4 true),
   ⟨false, [17], [], .det 2 (.store 2 [] 0 .nil (.t 17)), [2, 17, 17, 3], none, none⟩])
 .ret)))))))
def s_ltoOrder : Sig := ⟨[.rd true [.d, .d, .sl (.own none) [.d, .d], .d]], (.one true [.d, .d, .sl (.own none) [.d, .d], .d])⟩
noncomputable def E_ltoOrder : TEnv := envOf [(37, p_ltoEdgeS)]
noncomputable def f_ltoOrder (n : Nat) : (Int × Int × List (Int × Int) × Int) → Option ((Int × Int × List (Int × Int) × Int) × Unit) := runFn n E_ltoOrder c_ltoOrder [[.i .i64, .i .i64, .sl [.i .i64, .i .i64], .i .i64]] [.i .i64, .i .i64, .sl [.i .i64, .i .i64], .i .i64] [] [2] .no
noncomputable def g_ltoOrder := f_ltoOrder BIG
noncomputable def p_ltoOrder : TSp := ⟨s_ltoOrder, [[.i .i64, .i .i64, .sl [.i .i64, .i .i64], .i .i64]], [.i .i64, .i .i64, .sl [.i .i64, .i .i64], .i .i64], [], Ou.j .no, g_ltoOrder⟩
theorem k_ltoOrder : chkW PG E_ltoOrder 234 s_ltoOrder (c_ltoOrder.ht 18) .no = some (c_ltoOrder.wc E_ltoOrder, [2]) := by kernel_rfl
theorem ok_ltoOrder : p_ltoOrder.Ok PG 234 := mkOk (env_cons ok_ltoEdgeS (env_nil PG)) k_ltoOrder (by kernel_rfl)
theorem e_ltoOrder (n : Nat) (a0 : Int × Int × List (Int × Int) × Int) : f_ltoOrder n a0 =
  Option.bind (g_ltoEdgeS a0.2.2.1) fun r0 =>
  some ((a0.1, a0.2.1, r0.1, a0.2.2.2), ()) := by kernel_rfl
/- laws.toTask -/
def c_ltoTask : TC :=
 (.seq (.rg [o1 1 (.a (.t 0)),
   ⟨false, [], [], .det 2 (.a (.c [.i .i64, .i .i64, .i .i64, .i .i64, .i .i64, .i .i64, .i .i64, .sl [.i .i64, .i .i64], .i .i64] [.int .i64 (0), .int .i64 (0), .int .i64 (0), .int .i64 (0), .int .i64 (0), .int .i64 (0), .int .i64 (0), .slice none 0 0, .int .i64 (0)])), [2, 1000000001], (some 2), none⟩])
 (.seq (.rg [⟨false, [], [], .det 2 (.a (.c [.i .i64, .i .i64, .i .i64, .i .i64, .i .i64, .i .i64, .i .i64, .sl [.i .i64, .i .i64], .i .i64] [.int .i64 (0), .int .i64 (0), .int .i64 (0), .int .i64 (0), .int .i64 (0), .int .i64 (0), .int .i64 (0), .slice none 0 0, .int .i64 (0)])), [3, 1000000001], (some 3), none⟩])
 (.seq (.rg [o1 4 (.idx .nil),
   o1 5 (.load 1 [] 0 (.t 4) 4 false),
   o3 6 91 [.t 5],
   o1 7 (.idx .nil),
   o4 1 [3] (.store 3 [] 0 (.t 7) (.t 6))])
 (.seq (.rg [o1 8 (.idx .nil),
   o1 9 (.load 1 [] 4 (.t 8) 1 false),
   o1 10 (.idx .nil),
   o4 1 [3] (.store 3 [] 4 (.t 10) (.t 9))])
 (.seq (.rg [o1 11 (.idx .nil),
   o1 12 (.load 1 [] 5 (.t 11) 4 false),
   o3 13 234 [.t 12],
   o1 14 (.idx .nil),
   o4 2 [3, 13] (.store 3 [] 5 (.t 14) (.t 13))])
 (.seq (.rg [o1 15 (.load 3 [] 0 .nil 9 true),
   ⟨false, [15], [], .det 2 (.store 2 [] 0 .nil (.t 15)), [2, 15, 15, 3], none, none⟩])
 .ret))))))
def s_ltoTask : Sig := ⟨[.rd true [.d, .d, .d, .d, .d, .d, .d, .sl (.own none) [.d, .d], .d]], (.one true [.d, .d, .d, .d, .d, .d, .d, .sl (.own none) [.d, .d], .d])⟩
noncomputable def E_ltoTask : TEnv := envOf [(91, p_ltoAsk), (234, p_ltoOrder)]
noncomputable def f_ltoTask (n : Nat) : (Int × Int × Int × Int × Int × Int × Int × List (Int × Int) × Int) → Option ((Int × Int × Int × Int × Int × Int × Int × List (Int × Int) × Int) × Unit) := runFn n E_ltoTask c_ltoTask [[.i .i64, .i .i64, .i .i64, .i .i64, .i .i64, .i .i64, .i .i64, .sl [.i .i64, .i .i64], .i .i64]] [.i .i64, .i .i64, .i .i64, .i .i64, .i .i64, .i .i64, .i .i64, .sl [.i .i64, .i .i64], .i .i64] [] [2] .no
noncomputable def g_ltoTask := f_ltoTask BIG
noncomputable def p_ltoTask : TSp := ⟨s_ltoTask, [[.i .i64, .i .i64, .i .i64, .i .i64, .i .i64, .i .i64, .i .i64, .sl [.i .i64, .i .i64], .i .i64]], [.i .i64, .i .i64, .i .i64, .i .i64, .i .i64, .i .i64, .i .i64, .sl [.i .i64, .i .i64], .i .i64], [], Ou.j .no, g_ltoTask⟩
theorem k_ltoTask : chkW PG E_ltoTask 198 s_ltoTask (c_ltoTask.ht 16) .no = some (c_ltoTask.wc E_ltoTask, [2]) := by kernel_rfl
theorem ok_ltoTask : p_ltoTask.Ok PG 198 := mkOk (env_cons ok_ltoAsk (env_cons ok_ltoOrder (env_nil PG))) k_ltoTask (by kernel_rfl)
theorem e_ltoTask (n : Nat) (a0 : Int × Int × Int × Int × Int × Int × Int × List (Int × Int) × Int) : f_ltoTask n a0 =
  Option.bind (g_ltoAsk (a0.1, a0.2.1, a0.2.2.1, a0.2.2.2.1)) fun r0 =>
  Option.bind (g_ltoOrder a0.2.2.2.2.2) fun r1 =>
  some ((r0.1.1, r0.1.2.1, r0.1.2.2.1, r0.1.2.2.2, a0.2.2.2.2.1, r1.1), ()) := by kernel_rfl
/- laws.toSaid -/
def c_ltoSaid : TC :=
 (.seq (.rg [o1 1 (.a (.t 0)),
   ⟨false, [], [], .det 2 (.a (.c [.i .i64, .i .i64, .i .i64, .i .i64, .i .i64, .i .i64] [.int .i64 (0), .int .i64 (0), .int .i64 (0), .int .i64 (0), .int .i64 (0), .int .i64 (0)])), [2, 1000000001], (some 2), none⟩])
 (.seq (.rg [⟨false, [], [], .det 2 (.a (.c [.i .i64, .i .i64, .i .i64, .i .i64, .i .i64, .i .i64] [.int .i64 (0), .int .i64 (0), .int .i64 (0), .int .i64 (0), .int .i64 (0), .int .i64 (0)])), [3, 1000000001], (some 3), none⟩])
 (.seq (.rg [o1 4 (.idx .nil),
   o1 5 (.load 1 [] 0 (.t 4) 1 false),
   o1 6 (.idx .nil),
   o4 1 [3] (.store 3 [] 0 (.t 6) (.t 5))])
 (.seq (.rg [o1 7 (.idx .nil),
   o1 8 (.load 1 [] 1 (.t 7) 4 false),
   o3 9 91 [.t 8],
   o1 10 (.idx .nil),
   o4 1 [3] (.store 3 [] 1 (.t 10) (.t 9))])
 (.seq (.rg [o1 11 (.idx .nil),
   o1 12 (.load 1 [] 5 (.t 11) 1 false),
   o1 13 (.idx .nil),
   o4 1 [3] (.store 3 [] 5 (.t 13) (.t 12))])
 (.seq (.rg [o1 14 (.load 3 [] 0 .nil 6 false),
   o4 1 [2] (.store 2 [] 0 .nil (.t 14))])
 .ret))))))
def s_ltoSaid : Sig := ⟨[.rd true [.d, .d, .d, .d, .d, .d]], (.one true [.d, .d, .d, .d, .d, .d])⟩
noncomputable def E_ltoSaid : TEnv := envOf [(91, p_ltoAsk)]
noncomputable def f_ltoSaid (n : Nat) : (Int × Int × Int × Int × Int × Int) → Option ((Int × Int × Int × Int × Int × Int) × Unit) := runFn n E_ltoSaid c_ltoSaid [[.i .i64, .i .i64, .i .i64, .i .i64, .i .i64, .i .i64]] [.i .i64, .i .i64, .i .i64, .i .i64, .i .i64, .i .i64] [] [2] .no
noncomputable def g_ltoSaid := f_ltoSaid BIG
noncomputable def p_ltoSaid : TSp := ⟨s_ltoSaid, [[.i .i64, .i .i64, .i .i64, .i .i64, .i .i64, .i .i64]], [.i .i64, .i .i64, .i .i64, .i .i64, .i .i64, .i .i64], [], Ou.j .no, g_ltoSaid⟩
theorem k_ltoSaid : chkW PG E_ltoSaid 215 s_ltoSaid (c_ltoSaid.ht 15) .no = some (c_ltoSaid.wc E_ltoSaid, [2]) := by kernel_rfl
theorem ok_ltoSaid : p_ltoSaid.Ok PG 215 := mkOk (env_cons ok_ltoAsk (env_nil PG)) k_ltoSaid (by kernel_rfl)
theorem e_ltoSaid (n : Nat) (a0 : Int × Int × Int × Int × Int × Int) : f_ltoSaid n a0 =
  Option.bind (g_ltoAsk (a0.2.1, a0.2.2.1, a0.2.2.2.1, a0.2.2.2.2.1)) fun r0 =>
  some ((a0.1, r0.1.1, r0.1.2.1, r0.1.2.2.1, r0.1.2.2.2, a0.2.2.2.2.2), ()) := by kernel_rfl
/- laws.toSaidS -/
def c_ltoSaidS : TC :=
 (.seq (.rg [o1 2 (.lit [.sl [.i .i64, .i .i64, .i .i64, .i .i64, .i .i64, .i .i64]] [.slice none 0 0])])
 (.seq (.rg [o1 5 (.copy 0),
   o1 6 (.len 5),
   o1 7 (.make (.t 6) [.i .i64, .i .i64, .i .i64, .i .i64, .i .i64, .i .i64]),
   ⟨false, [], [], .det 2 (.copy 7), [3, 7], (some 3), none⟩])
 (.seq (.join [⟨3, [.sl [.i .i64, .i .i64, .i .i64, .i .i64, .i .i64, .i .i64]], false⟩] 4194072 none (.seq (.rg [o1 4 (.lit [.i .i64] [.int .i64 (0)])])
 (.block 0 (.loop [⟨3, [.sl [.i .i64, .i .i64, .i .i64, .i .i64, .i .i64, .i .i64]], false⟩, ⟨4, [.i .i64], false⟩] 4194072
  (.seq (.seq (.rg [o1 8 (.copy 4),
    o1 9 (.copy 0),
    o1 10 (.len 9),
    o1 11 (.data (.bin .lss) [.t 8, .t 10])])
  (.cond (.t 11)
   .skip
   (.exit 0)))
  (.seq (.block 1 (.rg [⟨true, [], [], .det 1 (.copy 3), [14], (some 14), none⟩,
    o1 15 (.copy 4),
    o1 16 (.copy 0),
    o1 17 (.copy 4),
    o1 18 (.index 16 (.t 17)),
    o1 19 (.load 16 [(0, 6)] 0 (.t 18) 6 false),
    o3 20 215 [.t 19],
    o1 21 (.index 14 (.t 15)),
    o4 1 [3, 14] (.store 3 [(0, 6)] 0 (.t 21) (.t 20))]))
  (.rg [o1 12 (.copy 4),
    o1 13 (.data (.bin .add) [.t 12, .c (.int .i64 (1))]),
    o1 4 (.copy 13)])))))))
 (.seq (.rg [⟨false, [], [], .det 2 (.copy 3), [22, 3], (some 22), none⟩,
   ⟨false, [], [], .det 2 (.copy 22), [2, 22], (some 2), none⟩])
 .ret))))
def s_ltoSaidS : Sig := ⟨[.rd false [.sl (.own none) [.d, .d, .d, .d, .d, .d]]], (.one false [.sl (.own none) [.d, .d, .d, .d, .d, .d]])⟩
noncomputable def E_ltoSaidS : TEnv := envOf [(215, p_ltoSaid)]
noncomputable def f_ltoSaidS (n : Nat) : (List (Int × Int × Int × Int × Int × Int)) → Option ((List (Int × Int × Int × Int × Int × Int)) × Unit) := runFn n E_ltoSaidS c_ltoSaidS [[.sl [.i .i64, .i .i64, .i .i64, .i .i64, .i .i64, .i .i64]]] [.sl [.i .i64, .i .i64, .i .i64, .i .i64, .i .i64, .i .i64]] [] [2] .no
noncomputable def g_ltoSaidS := f_ltoSaidS BIG
noncomputable def p_ltoSaidS : TSp := ⟨s_ltoSaidS, [[.sl [.i .i64, .i .i64, .i .i64, .i .i64, .i .i64, .i .i64]]], [.sl [.i .i64, .i .i64, .i .i64, .i .i64, .i .i64, .i .i64]], [], Ou.j .no, g_ltoSaidS⟩
theorem k_ltoSaidS : chkW PG E_ltoSaidS 85 s_ltoSaidS (c_ltoSaidS.ht 23) .no = some (c_ltoSaidS.wc E_ltoSaidS, [2]) := by kernel_rfl
theorem ok_ltoSaidS : p_ltoSaidS.Ok PG 85 := mkOk (env_cons ok_ltoSaid (env_nil PG)) k_ltoSaidS (by kernel_rfl)
theorem e_ltoSaidS (n : Nat) (a0 : List (Int × Int × Int × Int × Int × Int)) : f_ltoSaidS n a0 =
  bif decide (0 ≤ (a0.length : Int)) then
   bif decide ((Int.toNat (a0.length : Int)) ≤ 4294967296) then
    Option.bind (loopT n (X := (List (Int × Int × Int × Int × Int × Int)) × Int) (B := (List (Int × Int × Int × Int × Int × Int))) (fun self1 x0 =>
      bif decide (x0.2 < (a0.length : Int)) then
       bnd a0.length x0.2 fun n2 =>
       Option.bind a0[n2]? fun y3 =>
       Option.bind (g_ltoSaid y3) fun r4 =>
       bnd x0.1.length x0.2 fun n5 =>
       Option.bind x0.1[n5]? fun y6 =>
       self1 (x0.1.set n5 r4.1, IntKind.wrap .i64 (x0.2 + (1 : Int)))
      else some x0.1) (List.replicate (Int.toNat (a0.length : Int)) ((0 : Int), (0 : Int), (0 : Int), (0 : Int), (0 : Int), (0 : Int)), (0 : Int)) : Option ((List (Int × Int × Int × Int × Int × Int)))) fun x7 =>
    some (x7, ())
   else none
  else none := by kernel_rfl
/- laws.toHead -/
def c_ltoHead : TC :=
 (.seq (.rg [o1 1 (.a (.t 0)),
   ⟨false, [], [], .det 2 (.a (.c [.i .i64, .sl [.i .i64], .sl [.i .i64, .i .i64], .sl [.sl [.i .i64]], .sl [.i .i64], .i .i64, .i .i64, .i .i64, .i .i64, .i .i64, .i .i64, .i .i64, .sl [.i .i64, .i .i64], .i .i64, .sl [.i .i64, .i .i64, .i .i64, .i .i64, .i .i64, .i .i64]] [.int .i64 (0), .slice none 0 0, .slice none 0 0, .slice none 0 0, .slice none 0 0, .int .i64 (0), .int .i64 (0), .int .i64 (0), .int .i64 (0), .int .i64 (0), .int .i64 (0), .int .i64 (0), .slice none 0 0, .int .i64 (0), .slice none 0 0])), [2, 1000000001], (some 2), none⟩])
 (.seq (.rg [⟨false, [], [], .det 2 (.a (.c [.i .i64, .sl [.i .i64], .sl [.i .i64, .i .i64], .sl [.sl [.i .i64]], .sl [.i .i64], .i .i64, .i .i64, .i .i64, .i .i64, .i .i64, .i .i64, .i .i64, .sl [.i .i64, .i .i64], .i .i64, .sl [.i .i64, .i .i64, .i .i64, .i .i64, .i .i64, .i .i64]] [.int .i64 (0), .slice none 0 0, .slice none 0 0, .slice none 0 0, .slice none 0 0, .int .i64 (0), .int .i64 (0), .int .i64 (0), .int .i64 (0), .int .i64 (0), .int .i64 (0), .int .i64 (0), .slice none 0 0, .int .i64 (0), .slice none 0 0])), [3, 1000000001], (some 3), none⟩])
 (.seq (.rg [o1 4 (.idx .nil),
   o1 5 (.load 1 [] 0 (.t 4) 1 false),
   o1 6 (.idx .nil),
   o4 1 [3] (.store 3 [] 0 (.t 6) (.t 5))])
 (.seq (.rg [o1 7 (.idx .nil),
   o1 8 (.load 1 [] 1 (.t 7) 1 false),
   o3 9 169 [.t 8],
   o1 10 (.idx .nil),
   o4 2 [3, 9] (.store 3 [] 1 (.t 10) (.t 9))])
 (.seq (.rg [o1 11 (.idx .nil),
   o1 12 (.load 1 [] 2 (.t 11) 1 false),
   o3 13 37 [.t 12],
   o1 14 (.idx .nil),
   o4 2 [3, 13] (.store 3 [] 2 (.t 14) (.t 13))])
 (.seq (.rg [o1 15 (.idx .nil),
   o1 16 (.load 1 [] 3 (.t 15) 1 false),
   o3 17 36 [.t 16],
   o1 18 (.idx .nil),
   o4 2 [3, 17] (.store 3 [] 3 (.t 18) (.t 17))])
 (.seq (.rg [o1 19 (.idx .nil),
   o1 20 (.load 1 [] 4 (.t 19) 1 false),
   o3 21 169 [.t 20],
   o1 22 (.idx .nil),
   o4 2 [3, 21] (.store 3 [] 4 (.t 22) (.t 21))])
 (.seq (.rg [o1 23 (.idx .nil),
   o1 24 (.load 1 [] 5 (.t 23) 9 false),
   o3 25 198 [.t 24],
   o1 26 (.idx .nil),
   o4 2 [3, 25] (.store 3 [] 5 (.t 26) (.t 25))])
 (.seq (.rg [o1 27 (.idx .nil),
   o1 28 (.load 1 [] 14 (.t 27) 1 false),
   o3 29 85 [.t 28],
   o1 30 (.idx .nil),
   o4 2 [3, 29] (.store 3 [] 14 (.t 30) (.t 29))])
 (.seq (.rg [o1 31 (.load 3 [] 0 .nil 15 true),
   ⟨false, [31], [], .det 2 (.store 2 [] 0 .nil (.t 31)), [2, 31, 31, 3], none, none⟩])
 .ret))))))))))
def s_ltoHead : Sig := ⟨[.rd true [.d, .sl (.own none) [.d], .sl (.own none) [.d, .d], .sl (.own none) [.sl (.own none) [.d]], .sl (.own none) [.d], .d, .d, .d, .d, .d, .d, .d, .sl (.own none) [.d, .d], .d, .sl (.own none) [.d, .d, .d, .d, .d, .d]]], (.one true [.d, .sl (.own none) [.d], .sl (.own none) [.d, .d], .sl (.own none) [.sl (.own none) [.d]], .sl (.own none) [.d], .d, .d, .d, .d, .d, .d, .d, .sl (.own none) [.d, .d], .d, .sl (.own none) [.d, .d, .d, .d, .d, .d]])⟩
noncomputable def E_ltoHead : TEnv := envOf [(169, p_ltoIntS), (37, p_ltoEdgeS), (36, p_ltoIntSS), (198, p_ltoTask), (85, p_ltoSaidS)]
noncomputable def f_ltoHead (n : Nat) : (Int × List (Int) × List (Int × Int) × List (List (Int)) × List (Int) × Int × Int × Int × Int × Int × Int × Int × List (Int × Int) × Int × List (Int × Int × Int × Int × Int × Int)) → Option ((Int × List (Int) × List (Int × Int) × List (List (Int)) × List (Int) × Int × Int × Int × Int × Int × Int × Int × List (Int × Int) × Int × List (Int × Int × Int × Int × Int × Int)) × Unit) := runFn n E_ltoHead c_ltoHead [[.i .i64, .sl [.i .i64], .sl [.i .i64, .i .i64], .sl [.sl [.i .i64]], .sl [.i .i64], .i .i64, .i .i64, .i .i64, .i .i64, .i .i64, .i .i64, .i .i64, .sl [.i .i64, .i .i64], .i .i64, .sl [.i .i64, .i .i64, .i .i64, .i .i64, .i .i64, .i .i64]]] [.i .i64, .sl [.i .i64], .sl [.i .i64, .i .i64], .sl [.sl [.i .i64]], .sl [.i .i64], .i .i64, .i .i64, .i .i64, .i .i64, .i .i64, .i .i64, .i .i64, .sl [.i .i64, .i .i64], .i .i64, .sl [.i .i64, .i .i64, .i .i64, .i .i64, .i .i64, .i .i64]] [] [2] .no
noncomputable def g_ltoHead := f_ltoHead BIG
noncomputable def p_ltoHead : TSp := ⟨s_ltoHead, [[.i .i64, .sl [.i .i64], .sl [.i .i64, .i .i64], .sl [.sl [.i .i64]], .sl [.i .i64], .i .i64, .i .i64, .i .i64, .i .i64, .i .i64, .i .i64, .i .i64, .sl [.i .i64, .i .i64], .i .i64, .sl [.i .i64, .i .i64, .i .i64, .i .i64, .i .i64, .i .i64]]], [.i .i64, .sl [.i .i64], .sl [.i .i64, .i .i64], .sl [.sl [.i .i64]], .sl [.i .i64], .i .i64, .i .i64, .i .i64, .i .i64, .i .i64, .i .i64, .i .i64, .sl [.i .i64, .i .i64], .i .i64, .sl [.i .i64, .i .i64, .i .i64, .i .i64, .i .i64, .i .i64]], [], Ou.j .no, g_ltoHead⟩
theorem k_ltoHead : chkW PG E_ltoHead 66 s_ltoHead (c_ltoHead.ht 32) .no = some (c_ltoHead.wc E_ltoHead, [2]) := by kernel_rfl
theorem ok_ltoHead : p_ltoHead.Ok PG 66 := mkOk (env_cons ok_ltoIntS (env_cons ok_ltoEdgeS (env_cons ok_ltoIntSS (env_cons ok_ltoTask (env_cons ok_ltoSaidS (env_nil PG)))))) k_ltoHead (by kernel_rfl)
theorem e_ltoHead (n : Nat) (a0 : Int × List (Int) × List (Int × Int) × List ((List (Int))) × List (Int) × Int × Int × Int × Int × Int × Int × Int × List (Int × Int) × Int × List (Int × Int × Int × Int × Int × Int)) : f_ltoHead n a0 =
  Option.bind (g_ltoIntS a0.2.1) fun r0 =>
  Option.bind (g_ltoEdgeS a0.2.2.1) fun r1 =>
  Option.bind (g_ltoIntSS a0.2.2.2.1) fun r2 =>
  Option.bind (g_ltoIntS a0.2.2.2.2.1) fun r3 =>
  Option.bind (g_ltoTask (a0.2.2.2.2.2.1, a0.2.2.2.2.2.2.1, a0.2.2.2.2.2.2.2.1, a0.2.2.2.2.2.2.2.2.1, a0.2.2.2.2.2.2.2.2.2.1, a0.2.2.2.2.2.2.2.2.2.2.1, a0.2.2.2.2.2.2.2.2.2.2.2.1, a0.2.2.2.2.2.2.2.2.2.2.2.2.1, a0.2.2.2.2.2.2.2.2.2.2.2.2.2.1)) fun r4 =>
  Option.bind (g_ltoSaidS a0.2.2.2.2.2.2.2.2.2.2.2.2.2.2) fun r5 =>
  some ((a0.1, r0.1, r1.1, r2.1, r3.1, r4.1.1, r4.1.2.1, r4.1.2.2.1, r4.1.2.2.2.1, r4.1.2.2.2.2.1, r4.1.2.2.2.2.2.1, r4.1.2.2.2.2.2.2.1, r4.1.2.2.2.2.2.2.2.1, r4.1.2.2.2.2.2.2.2.2, r5.1), ()) := by kernel_rfl
/- spec.l12Said -/
def c_sl12Said : TC :=
 (.seq (.rg [o1 2 (.a (.t 0)),
   o1 4 (.lit [.i .i64] [.int .i64 (0)])])
 (.seq (.join [] 4194288 (some [⟨4, [.i .i64], false⟩]) (.seq (.rg [o1 5 (.lit [.i .i64] [.int .i64 (0)])])
 (.block 0 (.loop [⟨5, [.i .i64], false⟩] 4194288
  (.seq (.seq (.rg [o1 6 (.copy 5),
    o1 7 (.idx .nil),
    o1 8 (.load 2 [] 14 (.t 7) 1 false),
    o1 9 (.len 8),
    o1 10 (.data (.bin .lss) [.t 6, .t 9])])
  (.cond (.t 10)
   .skip
   (.exit 0)))
  (.seq (.block 1 (.seq (.rg [o1 13 (.idx .nil),
    o1 14 (.load 2 [] 14 (.t 13) 1 false),
    o1 15 (.copy 5),
    o1 16 (.index 14 (.t 15)),
    o1 17 (.idx (.t 16)),
    o1 18 (.load 14 [(0, 6)] 0 (.t 17) 1 false),
    o1 19 (.copy 1),
    o1 20 (.data (.bin .eql) [.t 18, .t 19])])
  (.cond (.t 20)
   (.seq (.rg [o1 21 (.copy 5),
     o1 4 (.copy 21)])
   .ret)
   .skip)))
  (.rg [o1 11 (.copy 5),
    o1 12 (.data (.bin .add) [.t 11, .c (.int .i64 (1))]),
    o1 5 (.copy 12)])))))))
 (.seq (.rg [o1 4 (.lit [.i .i64] [.int .i64 (-1)])])
 .ret)))
def s_sl12Said : Sig := ⟨[.rd true [.d, .sl (.own none) [.d], .sl (.own none) [.d, .d], .sl (.own none) [.sl (.own none) [.d]], .sl (.own none) [.d], .d, .d, .d, .d, .d, .d, .d, .sl (.own none) [.d, .d], .d, .sl (.own none) [.d, .d, .d, .d, .d, .d]], .rd false [.d]], (.one false [.d])⟩
noncomputable def E_sl12Said : TEnv := envOf []
noncomputable def f_sl12Said (n : Nat) : (Int × List (Int) × List (Int × Int) × List (List (Int)) × List (Int) × Int × Int × Int × Int × Int × Int × Int × List (Int × Int) × Int × List (Int × Int × Int × Int × Int × Int)) × Int → Option ((Int) × Unit) := runFn n E_sl12Said c_sl12Said [[.i .i64, .sl [.i .i64], .sl [.i .i64, .i .i64], .sl [.sl [.i .i64]], .sl [.i .i64], .i .i64, .i .i64, .i .i64, .i .i64, .i .i64, .i .i64, .i .i64, .sl [.i .i64, .i .i64], .i .i64, .sl [.i .i64, .i .i64, .i .i64, .i .i64, .i .i64, .i .i64]], [.i .i64]] [.i .i64] [] [4] .no
noncomputable def g_sl12Said := f_sl12Said BIG
noncomputable def p_sl12Said : TSp := ⟨s_sl12Said, [[.i .i64, .sl [.i .i64], .sl [.i .i64, .i .i64], .sl [.sl [.i .i64]], .sl [.i .i64], .i .i64, .i .i64, .i .i64, .i .i64, .i .i64, .i .i64, .i .i64, .sl [.i .i64, .i .i64], .i .i64, .sl [.i .i64, .i .i64, .i .i64, .i .i64, .i .i64, .i .i64]], [.i .i64]], [.i .i64], [], Ou.j .no, g_sl12Said⟩
theorem k_sl12Said : chkW PG E_sl12Said 200 s_sl12Said (c_sl12Said.ht 22) .no = some (c_sl12Said.wc E_sl12Said, [4]) := by kernel_rfl
theorem ok_sl12Said : p_sl12Said.Ok PG 200 := mkOk (env_nil PG) k_sl12Said (by kernel_rfl)
theorem e_sl12Said (n : Nat) (a0 : Int × List (Int) × List (Int × Int) × List ((List (Int))) × List (Int) × Int × Int × Int × Int × Int × Int × Int × List (Int × Int) × Int × List (Int × Int × Int × Int × Int × Int)) (a1 : Int) : f_sl12Said n (a0, a1) =
  Option.bind (loopT n (X := Int) (B := (Unit) ⊕ (Int)) (fun self1 x0 =>
    bif decide (x0 < (a0.2.2.2.2.2.2.2.2.2.2.2.2.2.2.length : Int)) then
     bnd a0.2.2.2.2.2.2.2.2.2.2.2.2.2.2.length x0 fun n2 =>
     Option.bind a0.2.2.2.2.2.2.2.2.2.2.2.2.2.2[n2]? fun y3 =>
     bif decide (y3.1 = a1) then
      some (Sum.inr x0)
     else self1 (IntKind.wrap .i64 (x0 + (1 : Int)))
    else some (Sum.inl ())) (0 : Int) : Option ((Unit) ⊕ (Int))) fun y => match y with
  | .inl x4 =>
   some ((-1 : Int), ())
  | .inr x4 =>
   some (x4, ()) := by kernel_rfl
/- spec.ReplyOf -/
def c_sReplyOf : TC :=
 (.seq (.rg [o1 2 (.a (.t 0)),
   o1 4 (.lit [.i .i64] [.int .i64 (0)]),
   o1 5 (.lit [.b] [.bool false])])
 (.seq (.rg [o1 7 (.load 2 [] 0 .nil 15 false),
   o1 8 (.copy 1),
   o3 9 200 [.t 7, .t 8],
   o1 6 (.copy 9)])
 (.seq (.seq (.rg [o1 10 (.copy 6),
   o1 11 (.data (.bin .lss) [.t 10, .c (.int .i64 (0))])])
 (.cond (.t 11)
  (.seq (.rg [o1 4 (.lit [.i .i64] [.int .i64 (0)]),
    o1 5 (.lit [.b] [.bool false])])
  .ret)
  .skip))
 (.seq (.rg [o1 12 (.idx .nil),
   o1 13 (.load 2 [] 14 (.t 12) 1 false),
   o1 14 (.copy 6),
   o1 15 (.index 13 (.t 14)),
   o1 16 (.idx (.t 15)),
   o1 17 (.load 13 [(0, 6)] 5 (.t 16) 1 false),
   o1 4 (.copy 17),
   o1 5 (.lit [.b] [.bool true])])
 .ret))))
def s_sReplyOf : Sig := ⟨[.rd true [.d, .sl (.own none) [.d], .sl (.own none) [.d, .d], .sl (.own none) [.sl (.own none) [.d]], .sl (.own none) [.d], .d, .d, .d, .d, .d, .d, .d, .sl (.own none) [.d, .d], .d, .sl (.own none) [.d, .d, .d, .d, .d, .d]], .rd false [.d]], (.tup [(false, 1), (false, 1)] [.d, .d])⟩
noncomputable def E_sReplyOf : TEnv := envOf [(200, p_sl12Said)]
noncomputable def f_sReplyOf (n : Nat) : (Int × List (Int) × List (Int × Int) × List (List (Int)) × List (Int) × Int × Int × Int × Int × Int × Int × Int × List (Int × Int) × Int × List (Int × Int × Int × Int × Int × Int)) × Int → Option ((Int × Bool) × Unit) := runFn n E_sReplyOf c_sReplyOf [[.i .i64, .sl [.i .i64], .sl [.i .i64, .i .i64], .sl [.sl [.i .i64]], .sl [.i .i64], .i .i64, .i .i64, .i .i64, .i .i64, .i .i64, .i .i64, .i .i64, .sl [.i .i64, .i .i64], .i .i64, .sl [.i .i64, .i .i64, .i .i64, .i .i64, .i .i64, .i .i64]], [.i .i64]] [.i .i64, .b] [] [4, 5] .no
noncomputable def g_sReplyOf := f_sReplyOf BIG
noncomputable def p_sReplyOf : TSp := ⟨s_sReplyOf, [[.i .i64, .sl [.i .i64], .sl [.i .i64, .i .i64], .sl [.sl [.i .i64]], .sl [.i .i64], .i .i64, .i .i64, .i .i64, .i .i64, .i .i64, .i .i64, .i .i64, .sl [.i .i64, .i .i64], .i .i64, .sl [.i .i64, .i .i64, .i .i64, .i .i64, .i .i64, .i .i64]], [.i .i64]], [.i .i64, .b], [], Ou.j .no, g_sReplyOf⟩
theorem k_sReplyOf : chkW PG E_sReplyOf 69 s_sReplyOf (c_sReplyOf.ht 18) .no = some (c_sReplyOf.wc E_sReplyOf, [4, 5]) := by kernel_rfl
theorem ok_sReplyOf : p_sReplyOf.Ok PG 69 := mkOk (env_cons ok_sl12Said (env_nil PG)) k_sReplyOf (by kernel_rfl)
theorem e_sReplyOf (n : Nat) (a0 : Int × List (Int) × List (Int × Int) × List ((List (Int))) × List (Int) × Int × Int × Int × Int × Int × Int × Int × List (Int × Int) × Int × List (Int × Int × Int × Int × Int × Int)) (a1 : Int) : f_sReplyOf n (a0, a1) =
  Option.bind (g_sl12Said (a0, a1)) fun r0 =>
  bif decide (r0.1 < (0 : Int)) then
   some (((0 : Int), false), ())
  else bnd a0.2.2.2.2.2.2.2.2.2.2.2.2.2.2.length r0.1 fun n1 =>
  Option.bind a0.2.2.2.2.2.2.2.2.2.2.2.2.2.2[n1]? fun y2 =>
  some ((y2.2.2.2.2.2, true), ()) := by kernel_rfl
/- impl.saidAt -/
def c_isaidAt : TC :=
 (.seq (.rg [o1 4 (.lit [.i .i64] [.int .i64 (0)])])
 (.seq (.join [] 1048560 (some [⟨4, [.i .i64], false⟩]) (.seq (.rg [o1 7 (.copy 0),
   o1 8 (.len 7),
   o1 9 (.lit [.i .i64] [.int .i64 (0)])])
 (.block 0 (.loop [⟨9, [.i .i64], false⟩] 1048176
  (.seq (.rg [o1 10 (.data (.bin .lss) [.t 9, .t 8])])
  (.seq (.cond (.t 10)
   .skip
   (.exit 0))
  (.seq (.block 1 (.seq (.rg [o1 11 (.copy 9),
    o1 12 (.index 7 (.t 9)),
    o1 13 (.load 7 [(0, 6)] 0 (.t 12) 6 false),
    ⟨false, [], [], .det 2 (.a (.c [.i .i64, .i .i64, .i .i64, .i .i64, .i .i64, .i .i64] [.int .i64 (0), .int .i64 (0), .int .i64 (0), .int .i64 (0), .int .i64 (0), .int .i64 (0)])), [6, 1000000001], (some 6), none⟩,
    o1 5 (.copy 11),
    o4 1 [6] (.store 6 [] 0 .nil (.t 13))])
  (.seq (.rg [o1 14 (.idx .nil),
    o1 15 (.load 6 [] 0 (.t 14) 1 false),
    o1 16 (.copy 1),
    o1 17 (.data (.bin .eql) [.t 15, .t 16])])
  (.cond (.t 17)
   (.seq (.rg [o1 18 (.copy 5),
     o1 4 (.copy 18)])
   .ret)
   .skip))))
  (.rg [o1 19 (.data (.bin .add) [.t 9, .c (.int .i64 (1))]),
    o1 9 (.copy 19)]))))))))
 (.seq (.rg [o1 4 (.lit [.i .i64] [.int .i64 (-1)])])
 .ret)))
def s_isaidAt : Sig := ⟨[.rd false [.sl (.own none) [.d, .d, .d, .d, .d, .d]], .rd false [.d]], (.one false [.d])⟩
noncomputable def E_isaidAt : TEnv := envOf []
noncomputable def f_isaidAt (n : Nat) : (List (Int × Int × Int × Int × Int × Int)) × Int → Option ((Int) × Unit) := runFn n E_isaidAt c_isaidAt [[.sl [.i .i64, .i .i64, .i .i64, .i .i64, .i .i64, .i .i64]], [.i .i64]] [.i .i64] [] [4] .no
noncomputable def g_isaidAt := f_isaidAt BIG
noncomputable def p_isaidAt : TSp := ⟨s_isaidAt, [[.sl [.i .i64, .i .i64, .i .i64, .i .i64, .i .i64, .i .i64]], [.i .i64]], [.i .i64], [], Ou.j .no, g_isaidAt⟩
theorem k_isaidAt : chkW PG E_isaidAt 201 s_isaidAt (c_isaidAt.ht 20) .no = some (c_isaidAt.wc E_isaidAt, [4]) := by kernel_rfl
theorem ok_isaidAt : p_isaidAt.Ok PG 201 := mkOk (env_nil PG) k_isaidAt (by kernel_rfl)
theorem e_isaidAt (n : Nat) (a0 : List (Int × Int × Int × Int × Int × Int)) (a1 : Int) : f_isaidAt n (a0, a1) =
  Option.bind (loopT n (X := Int) (B := (Unit) ⊕ (Int)) (fun self1 x0 =>
    bif decide (x0 < (a0.length : Int)) then
     bnd a0.length x0 fun n2 =>
     Option.bind a0[n2]? fun y3 =>
     bif decide (y3.1 = a1) then
      some (Sum.inr x0)
     else self1 (IntKind.wrap .i64 (x0 + (1 : Int)))
    else some (Sum.inl ())) (0 : Int) : Option ((Unit) ⊕ (Int))) fun y => match y with
  | .inl x4 =>
   some ((-1 : Int), ())
  | .inr x4 =>
   some (x4, ()) := by kernel_rfl
/- impl.ReplyOf -/
def c_iReplyOf : TC :=
 (.seq (.rg [o1 2 (.a (.t 0)),
   o1 4 (.lit [.i .i64] [.int .i64 (0)]),
   o1 5 (.lit [.b] [.bool false])])
 (.seq (.rg [o1 7 (.idx .nil),
   o1 8 (.load 2 [] 14 (.t 7) 1 false),
   o1 9 (.copy 1),
   o3 10 201 [.t 8, .t 9],
   o1 6 (.copy 10)])
 (.seq (.seq (.rg [o1 11 (.copy 6),
   o1 12 (.data (.bin .lss) [.t 11, .c (.int .i64 (0))])])
 (.cond (.t 12)
  (.seq (.rg [o1 4 (.lit [.i .i64] [.int .i64 (0)]),
    o1 5 (.lit [.b] [.bool false])])
  .ret)
  .skip))
 (.seq (.rg [o1 13 (.idx .nil),
   o1 14 (.load 2 [] 14 (.t 13) 1 false),
   o1 15 (.copy 6),
   o1 16 (.index 14 (.t 15)),
   o1 17 (.idx (.t 16)),
   o1 18 (.load 14 [(0, 6)] 5 (.t 17) 1 false),
   o1 4 (.copy 18),
   o1 5 (.lit [.b] [.bool true])])
 .ret))))
def s_iReplyOf : Sig := ⟨[.rd true [.d, .sl (.own none) [.d], .sl (.own none) [.d, .d], .sl (.own none) [.sl (.own none) [.d]], .sl (.own none) [.d], .d, .d, .d, .d, .d, .d, .d, .sl (.own none) [.d, .d], .d, .sl (.own none) [.d, .d, .d, .d, .d, .d]], .rd false [.d]], (.tup [(false, 1), (false, 1)] [.d, .d])⟩
noncomputable def E_iReplyOf : TEnv := envOf [(201, p_isaidAt)]
noncomputable def f_iReplyOf (n : Nat) : (Int × List (Int) × List (Int × Int) × List (List (Int)) × List (Int) × Int × Int × Int × Int × Int × Int × Int × List (Int × Int) × Int × List (Int × Int × Int × Int × Int × Int)) × Int → Option ((Int × Bool) × Unit) := runFn n E_iReplyOf c_iReplyOf [[.i .i64, .sl [.i .i64], .sl [.i .i64, .i .i64], .sl [.sl [.i .i64]], .sl [.i .i64], .i .i64, .i .i64, .i .i64, .i .i64, .i .i64, .i .i64, .i .i64, .sl [.i .i64, .i .i64], .i .i64, .sl [.i .i64, .i .i64, .i .i64, .i .i64, .i .i64, .i .i64]], [.i .i64]] [.i .i64, .b] [] [4, 5] .no
noncomputable def g_iReplyOf := f_iReplyOf BIG
noncomputable def p_iReplyOf : TSp := ⟨s_iReplyOf, [[.i .i64, .sl [.i .i64], .sl [.i .i64, .i .i64], .sl [.sl [.i .i64]], .sl [.i .i64], .i .i64, .i .i64, .i .i64, .i .i64, .i .i64, .i .i64, .i .i64, .sl [.i .i64, .i .i64], .i .i64, .sl [.i .i64, .i .i64, .i .i64, .i .i64, .i .i64, .i .i64]], [.i .i64]], [.i .i64, .b], [], Ou.j .no, g_iReplyOf⟩
theorem k_iReplyOf : chkW PG E_iReplyOf 70 s_iReplyOf (c_iReplyOf.ht 19) .no = some (c_iReplyOf.wc E_iReplyOf, [4, 5]) := by kernel_rfl
theorem ok_iReplyOf : p_iReplyOf.Ok PG 70 := mkOk (env_cons ok_isaidAt (env_nil PG)) k_iReplyOf (by kernel_rfl)
theorem e_iReplyOf (n : Nat) (a0 : Int × List (Int) × List (Int × Int) × List ((List (Int))) × List (Int) × Int × Int × Int × Int × Int × Int × Int × List (Int × Int) × Int × List (Int × Int × Int × Int × Int × Int)) (a1 : Int) : f_iReplyOf n (a0, a1) =
  Option.bind (g_isaidAt (a0.2.2.2.2.2.2.2.2.2.2.2.2.2.2, a1)) fun r0 =>
  bif decide (r0.1 < (0 : Int)) then
   some (((0 : Int), false), ())
  else bnd a0.2.2.2.2.2.2.2.2.2.2.2.2.2.2.length r0.1 fun n1 =>
  Option.bind a0.2.2.2.2.2.2.2.2.2.2.2.2.2.2[n1]? fun y2 =>
  some ((y2.2.2.2.2.2, true), ()) := by kernel_rfl
/- laws.eqIntS -/
def c_leqIntS : TC :=
 (.seq (.rg [o1 4 (.lit [.b] [.bool false])])
 (.seq (.seq (.rg [o1 6 (.copy 0),
   o1 7 (.len 6),
   o1 8 (.copy 1),
   o1 9 (.len 8),
   o1 10 (.data (.bin .neq) [.t 7, .t 9])])
 (.cond (.t 10)
  (.seq (.rg [o1 4 (.lit [.b] [.bool false])])
  .ret)
  .skip))
 (.seq (.join [] 67106864 (some [⟨4, [.b], false⟩]) (.seq (.rg [o1 5 (.lit [.i .i64] [.int .i64 (0)])])
 (.block 0 (.loop [⟨5, [.i .i64], false⟩] 67106864
  (.seq (.seq (.rg [o1 11 (.copy 5),
    o1 12 (.copy 0),
    o1 13 (.len 12),
    o1 14 (.data (.bin .lss) [.t 11, .t 13])])
  (.cond (.t 14)
   .skip
   (.exit 0)))
  (.seq (.block 1 (.seq (.rg [o1 17 (.copy 0),
    o1 18 (.copy 5),
    o1 19 (.index 17 (.t 18)),
    o1 20 (.load 17 [(0, 1)] 0 (.t 19) 1 false),
    o1 21 (.copy 1),
    o1 22 (.copy 5),
    o1 23 (.index 21 (.t 22)),
    o1 24 (.load 21 [(0, 1)] 0 (.t 23) 1 false),
    o1 25 (.data (.bin .neq) [.t 20, .t 24])])
  (.cond (.t 25)
   (.seq (.rg [o1 4 (.lit [.b] [.bool false])])
   .ret)
   .skip)))
  (.rg [o1 15 (.copy 5),
    o1 16 (.data (.bin .add) [.t 15, .c (.int .i64 (1))]),
    o1 5 (.copy 16)])))))))
 (.seq (.rg [o1 4 (.lit [.b] [.bool true])])
 .ret))))
def s_leqIntS : Sig := ⟨[.rd false [.sl (.own none) [.d]], .rd false [.sl (.own none) [.d]]], (.one false [.d])⟩
noncomputable def E_leqIntS : TEnv := envOf []
noncomputable def f_leqIntS (n : Nat) : List (Int) × List (Int) → Option ((Bool) × Unit) := runFn n E_leqIntS c_leqIntS [[.sl [.i .i64]], [.sl [.i .i64]]] [.b] [] [4] .no
noncomputable def g_leqIntS := f_leqIntS BIG
noncomputable def p_leqIntS : TSp := ⟨s_leqIntS, [[.sl [.i .i64]], [.sl [.i .i64]]], [.b], [], Ou.j .no, g_leqIntS⟩
theorem k_leqIntS : chkW PG E_leqIntS 39 s_leqIntS (c_leqIntS.ht 26) .no = some (c_leqIntS.wc E_leqIntS, [4]) := by kernel_rfl
theorem ok_leqIntS : p_leqIntS.Ok PG 39 := mkOk (env_nil PG) k_leqIntS (by kernel_rfl)
theorem e_leqIntS (n : Nat) (a0 : List (Int)) (a1 : List (Int)) : f_leqIntS n (a0, a1) =
  bif !decide ((a0.length : Int) = (a1.length : Int)) then
   some (false, ())
  else Option.bind (loopT n (X := Int) (B := (Unit) ⊕ (Bool)) (fun self1 x0 =>
    bif decide (x0 < (a0.length : Int)) then
     bnd a0.length x0 fun n2 =>
     Option.bind a0[n2]? fun y3 =>
     bnd a1.length x0 fun n4 =>
     Option.bind a1[n4]? fun y5 =>
     bif !decide (y3 = y5) then
      some (Sum.inr false)
     else self1 (IntKind.wrap .i64 (x0 + (1 : Int)))
    else some (Sum.inl ())) (0 : Int) : Option ((Unit) ⊕ (Bool))) fun y => match y with
  | .inl x6 =>
   some (true, ())
  | .inr x6 =>
   some (x6, ()) := by kernel_rfl
/- laws.eqEdge -/
def c_leqEdge : TC :=
 (.seq (.rg [o1 2 (.a (.t 0)),
   o1 3 (.a (.t 1)),
   o1 4 (.lit [.b] [.bool false])])
 (.seq (.seq (.rg [o1 5 (.idx .nil),
   o1 6 (.load 2 [] 0 (.t 5) 1 false),
   o1 7 (.idx .nil),
   o1 8 (.load 3 [] 0 (.t 7) 1 false),
   o1 9 (.data (.bin .neq) [.t 6, .t 8])])
 (.cond (.t 9)
  (.seq (.rg [o1 4 (.lit [.b] [.bool false])])
  .ret)
  .skip))
 (.seq (.seq (.rg [o1 10 (.idx .nil),
   o1 11 (.load 2 [] 1 (.t 10) 1 false),
   o1 12 (.idx .nil),
   o1 13 (.load 3 [] 1 (.t 12) 1 false),
   o1 14 (.data (.bin .neq) [.t 11, .t 13])])
 (.cond (.t 14)
  (.seq (.rg [o1 4 (.lit [.b] [.bool false])])
  .ret)
  .skip))
 (.seq (.rg [o1 4 (.lit [.b] [.bool true])])
 .ret))))
def s_leqEdge : Sig := ⟨[.rd true [.d, .d], .rd true [.d, .d]], (.one false [.d])⟩
noncomputable def E_leqEdge : TEnv := envOf []
noncomputable def f_leqEdge (n : Nat) : (Int × Int) × (Int × Int) → Option ((Bool) × Unit) := runFn n E_leqEdge c_leqEdge [[.i .i64, .i .i64], [.i .i64, .i .i64]] [.b] [] [4] .no
noncomputable def g_leqEdge := f_leqEdge BIG
noncomputable def p_leqEdge : TSp := ⟨s_leqEdge, [[.i .i64, .i .i64], [.i .i64, .i .i64]], [.b], [], Ou.j .no, g_leqEdge⟩
theorem k_leqEdge : chkW PG E_leqEdge 174 s_leqEdge (c_leqEdge.ht 15) .no = some (c_leqEdge.wc E_leqEdge, [4]) := by kernel_rfl
theorem ok_leqEdge : p_leqEdge.Ok PG 174 := mkOk (env_nil PG) k_leqEdge (by kernel_rfl)
theorem e_leqEdge (n : Nat) (a0 : Int × Int) (a1 : Int × Int) : f_leqEdge n (a0, a1) =
  bif !decide (a0.1 = a1.1) then
   some (false, ())
  else bif !decide (a0.2 = a1.2) then
   some (false, ())
  else some (true, ()) := by kernel_rfl
/- laws.eqEdgeS -/
def c_leqEdgeS : TC :=
 (.seq (.rg [o1 4 (.lit [.b] [.bool false])])
 (.seq (.seq (.rg [o1 6 (.copy 0),
   o1 7 (.len 6),
   o1 8 (.copy 1),
   o1 9 (.len 8),
   o1 10 (.data (.bin .neq) [.t 7, .t 9])])
 (.cond (.t 10)
  (.seq (.rg [o1 4 (.lit [.b] [.bool false])])
  .ret)
  .skip))
 (.seq (.join [] 134215728 (some [⟨4, [.b], false⟩]) (.seq (.rg [o1 5 (.lit [.i .i64] [.int .i64 (0)])])
 (.block 0 (.loop [⟨5, [.i .i64], false⟩] 134215728
  (.seq (.seq (.rg [o1 11 (.copy 5),
    o1 12 (.copy 0),
    o1 13 (.len 12),
    o1 14 (.data (.bin .lss) [.t 11, .t 13])])
  (.cond (.t 14)
   .skip
   (.exit 0)))
  (.seq (.block 1 (.seq (.rg [o1 17 (.copy 0),
    o1 18 (.copy 5),
    o1 19 (.index 17 (.t 18)),
    o1 20 (.load 17 [(0, 2)] 0 (.t 19) 2 false),
    o1 21 (.copy 1),
    o1 22 (.copy 5),
    o1 23 (.index 21 (.t 22)),
    o1 24 (.load 21 [(0, 2)] 0 (.t 23) 2 false),
    o3 25 174 [.t 20, .t 24],
    o1 26 (.data .not [.t 25])])
  (.cond (.t 26)
   (.seq (.rg [o1 4 (.lit [.b] [.bool false])])
   .ret)
   .skip)))
  (.rg [o1 15 (.copy 5),
    o1 16 (.data (.bin .add) [.t 15, .c (.int .i64 (1))]),
    o1 5 (.copy 16)])))))))
 (.seq (.rg [o1 4 (.lit [.b] [.bool true])])
 .ret))))
def s_leqEdgeS : Sig := ⟨[.rd false [.sl (.own none) [.d, .d]], .rd false [.sl (.own none) [.d, .d]]], (.one false [.d])⟩
noncomputable def E_leqEdgeS : TEnv := envOf [(174, p_leqEdge)]
noncomputable def f_leqEdgeS (n : Nat) : (List (Int × Int)) × (List (Int × Int)) → Option ((Bool) × Unit) := runFn n E_leqEdgeS c_leqEdgeS [[.sl [.i .i64, .i .i64]], [.sl [.i .i64, .i .i64]]] [.b] [] [4] .no
noncomputable def g_leqEdgeS := f_leqEdgeS BIG
noncomputable def p_leqEdgeS : TSp := ⟨s_leqEdgeS, [[.sl [.i .i64, .i .i64]], [.sl [.i .i64, .i .i64]]], [.b], [], Ou.j .no, g_leqEdgeS⟩
theorem k_leqEdgeS : chkW PG E_leqEdgeS 41 s_leqEdgeS (c_leqEdgeS.ht 27) .no = some (c_leqEdgeS.wc E_leqEdgeS, [4]) := by kernel_rfl
theorem ok_leqEdgeS : p_leqEdgeS.Ok PG 41 := mkOk (env_cons ok_leqEdge (env_nil PG)) k_leqEdgeS (by kernel_rfl)
theorem e_leqEdgeS (n : Nat) (a0 : List (Int × Int)) (a1 : List (Int × Int)) : f_leqEdgeS n (a0, a1) =
  bif !decide ((a0.length : Int) = (a1.length : Int)) then
   some (false, ())
  else Option.bind (loopT n (X := Int) (B := (Unit) ⊕ (Bool)) (fun self1 x0 =>
    bif decide (x0 < (a0.length : Int)) then
     bnd a0.length x0 fun n2 =>
     Option.bind a0[n2]? fun y3 =>
     bnd a1.length x0 fun n4 =>
     Option.bind a1[n4]? fun y5 =>
     Option.bind (g_leqEdge (y3, y5)) fun r6 =>
     bif !r6.1 then
      some (Sum.inr false)
     else self1 (IntKind.wrap .i64 (x0 + (1 : Int)))
    else some (Sum.inl ())) (0 : Int) : Option ((Unit) ⊕ (Bool))) fun y => match y with
  | .inl x7 =>
   some (true, ())
  | .inr x7 =>
   some (x7, ()) := by kernel_rfl
/- laws.eqIntSS -/
def c_leqIntSS : TC :=
 (.seq (.rg [o1 4 (.lit [.b] [.bool false])])
 (.seq (.seq (.rg [o1 6 (.copy 0),
   o1 7 (.len 6),
   o1 8 (.copy 1),
   o1 9 (.len 8),
   o1 10 (.data (.bin .neq) [.t 7, .t 9])])
 (.cond (.t 10)
  (.seq (.rg [o1 4 (.lit [.b] [.bool false])])
  .ret)
  .skip))
 (.seq (.join [] 134215728 (some [⟨4, [.b], false⟩]) (.seq (.rg [o1 5 (.lit [.i .i64] [.int .i64 (0)])])
 (.block 0 (.loop [⟨5, [.i .i64], false⟩] 134215728
  (.seq (.seq (.rg [o1 11 (.copy 5),
    o1 12 (.copy 0),
    o1 13 (.len 12),
    o1 14 (.data (.bin .lss) [.t 11, .t 13])])
  (.cond (.t 14)
   .skip
   (.exit 0)))
  (.seq (.block 1 (.seq (.rg [o1 17 (.copy 0),
    o1 18 (.copy 5),
    o1 19 (.index 17 (.t 18)),
    o1 20 (.load 17 [(0, 1)] 0 (.t 19) 1 false),
    o1 21 (.copy 1),
    o1 22 (.copy 5),
    o1 23 (.index 21 (.t 22)),
    o1 24 (.load 21 [(0, 1)] 0 (.t 23) 1 false),
    o3 25 39 [.t 20, .t 24],
    o1 26 (.data .not [.t 25])])
  (.cond (.t 26)
   (.seq (.rg [o1 4 (.lit [.b] [.bool false])])
   .ret)
   .skip)))
  (.rg [o1 15 (.copy 5),
    o1 16 (.data (.bin .add) [.t 15, .c (.int .i64 (1))]),
    o1 5 (.copy 16)])))))))
 (.seq (.rg [o1 4 (.lit [.b] [.bool true])])
 .ret))))
def s_leqIntSS : Sig := ⟨[.rd false [.sl (.own none) [.sl (.own none) [.d]]], .rd false [.sl (.own none) [.sl (.own none) [.d]]]], (.one false [.d])⟩
noncomputable def E_leqIntSS : TEnv := envOf [(39, p_leqIntS)]
noncomputable def f_leqIntSS (n : Nat) : List (List (Int)) × List (List (Int)) → Option ((Bool) × Unit) := runFn n E_leqIntSS c_leqIntSS [[.sl [.sl [.i .i64]]], [.sl [.sl [.i .i64]]]] [.b] [] [4] .no
noncomputable def g_leqIntSS := f_leqIntSS BIG
noncomputable def p_leqIntSS : TSp := ⟨s_leqIntSS, [[.sl [.sl [.i .i64]]], [.sl [.sl [.i .i64]]]], [.b], [], Ou.j .no, g_leqIntSS⟩
theorem k_leqIntSS : chkW PG E_leqIntSS 40 s_leqIntSS (c_leqIntSS.ht 27) .no = some (c_leqIntSS.wc E_leqIntSS, [4]) := by kernel_rfl
theorem ok_leqIntSS : p_leqIntSS.Ok PG 40 := mkOk (env_cons ok_leqIntS (env_nil PG)) k_leqIntSS (by kernel_rfl)
theorem e_leqIntSS (n : Nat) (a0 : List ((List (Int)))) (a1 : List ((List (Int)))) : f_leqIntSS n (a0, a1) =
  bif !decide ((a0.length : Int) = (a1.length : Int)) then
   some (false, ())
  else Option.bind (loopT n (X := Int) (B := (Unit) ⊕ (Bool)) (fun self1 x0 =>
    bif decide (x0 < (a0.length : Int)) then
     bnd a0.length x0 fun n2 =>
     Option.bind a0[n2]? fun y3 =>
     bnd a1.length x0 fun n4 =>
     Option.bind a1[n4]? fun y5 =>
     Option.bind (g_leqIntS (y3, y5)) fun r6 =>
     bif !r6.1 then
      some (Sum.inr false)
     else self1 (IntKind.wrap .i64 (x0 + (1 : Int)))
    else some (Sum.inl ())) (0 : Int) : Option ((Unit) ⊕ (Bool))) fun y => match y with
  | .inl x7 =>
   some (true, ())
  | .inr x7 =>
   some (x7, ()) := by kernel_rfl
/- laws.eqAsk -/
def c_leqAsk : TC :=
 (.seq (.rg [o1 2 (.a (.t 0)),
   o1 3 (.a (.t 1)),
   o1 4 (.lit [.b] [.bool false])])
 (.seq (.seq (.rg [o1 5 (.idx .nil),
   o1 6 (.load 2 [] 0 (.t 5) 1 false),
   o1 7 (.idx .nil),
   o1 8 (.load 3 [] 0 (.t 7) 1 false),
   o1 9 (.data (.bin .neq) [.t 6, .t 8])])
 (.cond (.t 9)
  (.seq (.rg [o1 4 (.lit [.b] [.bool false])])
  .ret)
  .skip))
 (.seq (.seq (.rg [o1 10 (.idx .nil),
   o1 11 (.load 2 [] 1 (.t 10) 1 false),
   o1 12 (.idx .nil),
   o1 13 (.load 3 [] 1 (.t 12) 1 false),
   o1 14 (.data (.bin .neq) [.t 11, .t 13])])
 (.cond (.t 14)
  (.seq (.rg [o1 4 (.lit [.b] [.bool false])])
  .ret)
  .skip))
 (.seq (.seq (.rg [o1 15 (.idx .nil),
   o1 16 (.load 2 [] 2 (.t 15) 1 false),
   o1 17 (.idx .nil),
   o1 18 (.load 3 [] 2 (.t 17) 1 false),
   o1 19 (.data (.bin .neq) [.t 16, .t 18])])
 (.cond (.t 19)
  (.seq (.rg [o1 4 (.lit [.b] [.bool false])])
  .ret)
  .skip))
 (.seq (.seq (.rg [o1 20 (.idx .nil),
   o1 21 (.load 2 [] 3 (.t 20) 1 false),
   o1 22 (.idx .nil),
   o1 23 (.load 3 [] 3 (.t 22) 1 false),
   o1 24 (.data (.bin .neq) [.t 21, .t 23])])
 (.cond (.t 24)
  (.seq (.rg [o1 4 (.lit [.b] [.bool false])])
  .ret)
  .skip))
 (.seq (.rg [o1 4 (.lit [.b] [.bool true])])
 .ret))))))
def s_leqAsk : Sig := ⟨[.rd true [.d, .d, .d, .d], .rd true [.d, .d, .d, .d]], (.one false [.d])⟩
noncomputable def E_leqAsk : TEnv := envOf []
noncomputable def f_leqAsk (n : Nat) : (Int × Int × Int × Int) × (Int × Int × Int × Int) → Option ((Bool) × Unit) := runFn n E_leqAsk c_leqAsk [[.i .i64, .i .i64, .i .i64, .i .i64], [.i .i64, .i .i64, .i .i64, .i .i64]] [.b] [] [4] .no
noncomputable def g_leqAsk := f_leqAsk BIG
noncomputable def p_leqAsk : TSp := ⟨s_leqAsk, [[.i .i64, .i .i64, .i .i64, .i .i64], [.i .i64, .i .i64, .i .i64, .i .i64]], [.b], [], Ou.j .no, g_leqAsk⟩
theorem k_leqAsk : chkW PG E_leqAsk 239 s_leqAsk (c_leqAsk.ht 25) .no = some (c_leqAsk.wc E_leqAsk, [4]) := by kernel_rfl
theorem ok_leqAsk : p_leqAsk.Ok PG 239 := mkOk (env_nil PG) k_leqAsk (by kernel_rfl)
theorem e_leqAsk (n : Nat) (a0 : Int × Int × Int × Int) (a1 : Int × Int × Int × Int) : f_leqAsk n (a0, a1) =
  bif !decide (a0.1 = a1.1) then
   some (false, ())
  else bif !decide (a0.2.1 = a1.2.1) then
   some (false, ())
  else bif !decide (a0.2.2.1 = a1.2.2.1) then
   some (false, ())
  else bif !decide (a0.2.2.2 = a1.2.2.2) then
   some (false, ())
  else some (true, ()) := by kernel_rfl
/- laws.eqOrder -/
def c_leqOrder : TC :=
 (.seq (.rg [o1 2 (.a (.t 0)),
   o1 3 (.a (.t 1)),
   o1 4 (.lit [.b] [.bool false])])
 (.seq (.seq (.rg [o1 5 (.idx .nil),
   o1 6 (.load 2 [] 0 (.t 5) 1 false),
   o1 7 (.idx .nil),
   o1 8 (.load 3 [] 0 (.t 7) 1 false),
   o1 9 (.data (.bin .neq) [.t 6, .t 8])])
 (.cond (.t 9)
  (.seq (.rg [o1 4 (.lit [.b] [.bool false])])
  .ret)
  .skip))
 (.seq (.seq (.rg [o1 10 (.idx .nil),
   o1 11 (.load 2 [] 1 (.t 10) 1 false),
   o1 12 (.idx .nil),
   o1 13 (.load 3 [] 1 (.t 12) 1 false),
   o1 14 (.data (.bin .neq) [.t 11, .t 13])])
 (.cond (.t 14)
  (.seq (.rg [o1 4 (.lit [.b] [.bool false])])
  .ret)
  .skip))
 (.seq (.seq (.rg [o1 15 (.idx .nil),
   o1 16 (.load 2 [] 2 (.t 15) 1 false),
   o1 17 (.idx .nil),
   o1 18 (.load 3 [] 2 (.t 17) 1 false),
   o3 19 41 [.t 16, .t 18],
   o1 20 (.data .not [.t 19])])
 (.cond (.t 20)
  (.seq (.rg [o1 4 (.lit [.b] [.bool false])])
  .ret)
  .skip))
 (.seq (.seq (.rg [o1 21 (.idx .nil),
   o1 22 (.load 2 [] 3 (.t 21) 1 false),
   o1 23 (.idx .nil),
   o1 24 (.load 3 [] 3 (.t 23) 1 false),
   o1 25 (.data (.bin .neq) [.t 22, .t 24])])
 (.cond (.t 25)
  (.seq (.rg [o1 4 (.lit [.b] [.bool false])])
  .ret)
  .skip))
 (.seq (.rg [o1 4 (.lit [.b] [.bool true])])
 .ret))))))
def s_leqOrder : Sig := ⟨[.rd true [.d, .d, .sl (.own none) [.d, .d], .d], .rd true [.d, .d, .sl (.own none) [.d, .d], .d]], (.one false [.d])⟩
noncomputable def E_leqOrder : TEnv := envOf [(41, p_leqEdgeS)]
noncomputable def f_leqOrder (n : Nat) : (Int × Int × List (Int × Int) × Int) × (Int × Int × List (Int × Int) × Int) → Option ((Bool) × Unit) := runFn n E_leqOrder c_leqOrder [[.i .i64, .i .i64, .sl [.i .i64, .i .i64], .i .i64], [.i .i64, .i .i64, .sl [.i .i64, .i .i64], .i .i64]] [.b] [] [4] .no
noncomputable def g_leqOrder := f_leqOrder BIG
noncomputable def p_leqOrder : TSp := ⟨s_leqOrder, [[.i .i64, .i .i64, .sl [.i .i64, .i .i64], .i .i64], [.i .i64, .i .i64, .sl [.i .i64, .i .i64], .i .i64]], [.b], [], Ou.j .no, g_leqOrder⟩
theorem k_leqOrder : chkW PG E_leqOrder 57 s_leqOrder (c_leqOrder.ht 26) .no = some (c_leqOrder.wc E_leqOrder, [4]) := by kernel_rfl
theorem ok_leqOrder : p_leqOrder.Ok PG 57 := mkOk (env_cons ok_leqEdgeS (env_nil PG)) k_leqOrder (by kernel_rfl)
theorem e_leqOrder (n : Nat) (a0 : Int × Int × List (Int × Int) × Int) (a1 : Int × Int × List (Int × Int) × Int) : f_leqOrder n (a0, a1) =
  bif !decide (a0.1 = a1.1) then
   some (false, ())
  else bif !decide (a0.2.1 = a1.2.1) then
   some (false, ())
  else Option.bind (g_leqEdgeS (a0.2.2.1, a1.2.2.1)) fun r0 =>
  bif !r0.1 then
   some (false, ())
  else bif !decide (a0.2.2.2 = a1.2.2.2) then
   some (false, ())
  else some (true, ()) := by kernel_rfl
/- laws.eqTask -/
def c_leqTask : TC :=
 (.seq (.rg [o1 2 (.a (.t 0)),
   o1 3 (.a (.t 1)),
   o1 4 (.lit [.b] [.bool false])])
 (.seq (.seq (.rg [o1 5 (.idx .nil),
   o1 6 (.load 2 [] 0 (.t 5) 4 false),
   o1 7 (.idx .nil),
   o1 8 (.load 3 [] 0 (.t 7) 4 false),
   o3 9 239 [.t 6, .t 8],
   o1 10 (.data .not [.t 9])])
 (.cond (.t 10)
  (.seq (.rg [o1 4 (.lit [.b] [.bool false])])
  .ret)
  .skip))
 (.seq (.seq (.rg [o1 11 (.idx .nil),
   o1 12 (.load 2 [] 4 (.t 11) 1 false),
   o1 13 (.idx .nil),
   o1 14 (.load 3 [] 4 (.t 13) 1 false),
   o1 15 (.data (.bin .neq) [.t 12, .t 14])])
 (.cond (.t 15)
  (.seq (.rg [o1 4 (.lit [.b] [.bool false])])
  .ret)
  .skip))
 (.seq (.seq (.rg [o1 16 (.idx .nil),
   o1 17 (.load 2 [] 5 (.t 16) 4 false),
   o1 18 (.idx .nil),
   o1 19 (.load 3 [] 5 (.t 18) 4 false),
   o3 20 57 [.t 17, .t 19],
   o1 21 (.data .not [.t 20])])
 (.cond (.t 21)
  (.seq (.rg [o1 4 (.lit [.b] [.bool false])])
  .ret)
  .skip))
 (.seq (.rg [o1 4 (.lit [.b] [.bool true])])
 .ret)))))
def s_leqTask : Sig := ⟨[.rd true [.d, .d, .d, .d, .d, .d, .d, .sl (.own none) [.d, .d], .d], .rd true [.d, .d, .d, .d, .d, .d, .d, .sl (.own none) [.d, .d], .d]], (.one false [.d])⟩
noncomputable def E_leqTask : TEnv := envOf [(239, p_leqAsk), (57, p_leqOrder)]
noncomputable def f_leqTask (n : Nat) : (Int × Int × Int × Int × Int × Int × Int × List (Int × Int) × Int) × (Int × Int × Int × Int × Int × Int × Int × List (Int × Int) × Int) → Option ((Bool) × Unit) := runFn n E_leqTask c_leqTask [[.i .i64, .i .i64, .i .i64, .i .i64, .i .i64, .i .i64, .i .i64, .sl [.i .i64, .i .i64], .i .i64], [.i .i64, .i .i64, .i .i64, .i .i64, .i .i64, .i .i64, .i .i64, .sl [.i .i64, .i .i64], .i .i64]] [.b] [] [4] .no
noncomputable def g_leqTask := f_leqTask BIG
noncomputable def p_leqTask : TSp := ⟨s_leqTask, [[.i .i64, .i .i64, .i .i64, .i .i64, .i .i64, .i .i64, .i .i64, .sl [.i .i64, .i .i64], .i .i64], [.i .i64, .i .i64, .i .i64, .i .i64, .i .i64, .i .i64, .i .i64, .sl [.i .i64, .i .i64], .i .i64]], [.b], [], Ou.j .no, g_leqTask⟩
theorem k_leqTask : chkW PG E_leqTask 199 s_leqTask (c_leqTask.ht 22) .no = some (c_leqTask.wc E_leqTask, [4]) := by kernel_rfl
theorem ok_leqTask : p_leqTask.Ok PG 199 := mkOk (env_cons ok_leqAsk (env_cons ok_leqOrder (env_nil PG))) k_leqTask (by kernel_rfl)
theorem e_leqTask (n : Nat) (a0 : Int × Int × Int × Int × Int × Int × Int × List (Int × Int) × Int) (a1 : Int × Int × Int × Int × Int × Int × Int × List (Int × Int) × Int) : f_leqTask n (a0, a1) =
  Option.bind (g_leqAsk ((a0.1, a0.2.1, a0.2.2.1, a0.2.2.2.1), (a1.1, a1.2.1, a1.2.2.1, a1.2.2.2.1))) fun r0 =>
  bif !r0.1 then
   some (false, ())
  else bif !decide (a0.2.2.2.2.1 = a1.2.2.2.2.1) then
   some (false, ())
  else Option.bind (g_leqOrder (a0.2.2.2.2.2, a1.2.2.2.2.2)) fun r1 =>
  bif !r1.1 then
   some (false, ())
  else some (true, ()) := by kernel_rfl
/- laws.eqSaid -/
def c_leqSaid : TC :=
 (.seq (.rg [o1 2 (.a (.t 0)),
   o1 3 (.a (.t 1)),
   o1 4 (.lit [.b] [.bool false])])
 (.seq (.seq (.rg [o1 5 (.idx .nil),
   o1 6 (.load 2 [] 0 (.t 5) 1 false),
   o1 7 (.idx .nil),
   o1 8 (.load 3 [] 0 (.t 7) 1 false),
   o1 9 (.data (.bin .neq) [.t 6, .t 8])])
 (.cond (.t 9)
  (.seq (.rg [o1 4 (.lit [.b] [.bool false])])
  .ret)
  .skip))
 (.seq (.seq (.rg [o1 10 (.idx .nil),
   o1 11 (.load 2 [] 1 (.t 10) 4 false),
   o1 12 (.idx .nil),
   o1 13 (.load 3 [] 1 (.t 12) 4 false),
   o3 14 239 [.t 11, .t 13],
   o1 15 (.data .not [.t 14])])
 (.cond (.t 15)
  (.seq (.rg [o1 4 (.lit [.b] [.bool false])])
  .ret)
  .skip))
 (.seq (.seq (.rg [o1 16 (.idx .nil),
   o1 17 (.load 2 [] 5 (.t 16) 1 false),
   o1 18 (.idx .nil),
   o1 19 (.load 3 [] 5 (.t 18) 1 false),
   o1 20 (.data (.bin .neq) [.t 17, .t 19])])
 (.cond (.t 20)
  (.seq (.rg [o1 4 (.lit [.b] [.bool false])])
  .ret)
  .skip))
 (.seq (.rg [o1 4 (.lit [.b] [.bool true])])
 .ret)))))
def s_leqSaid : Sig := ⟨[.rd true [.d, .d, .d, .d, .d, .d], .rd true [.d, .d, .d, .d, .d, .d]], (.one false [.d])⟩
noncomputable def E_leqSaid : TEnv := envOf [(239, p_leqAsk)]
noncomputable def f_leqSaid (n : Nat) : (Int × Int × Int × Int × Int × Int) × (Int × Int × Int × Int × Int × Int) → Option ((Bool) × Unit) := runFn n E_leqSaid c_leqSaid [[.i .i64, .i .i64, .i .i64, .i .i64, .i .i64, .i .i64], [.i .i64, .i .i64, .i .i64, .i .i64, .i .i64, .i .i64]] [.b] [] [4] .no
noncomputable def g_leqSaid := f_leqSaid BIG
noncomputable def p_leqSaid : TSp := ⟨s_leqSaid, [[.i .i64, .i .i64, .i .i64, .i .i64, .i .i64, .i .i64], [.i .i64, .i .i64, .i .i64, .i .i64, .i .i64, .i .i64]], [.b], [], Ou.j .no, g_leqSaid⟩
theorem k_leqSaid : chkW PG E_leqSaid 217 s_leqSaid (c_leqSaid.ht 21) .no = some (c_leqSaid.wc E_leqSaid, [4]) := by kernel_rfl
theorem ok_leqSaid : p_leqSaid.Ok PG 217 := mkOk (env_cons ok_leqAsk (env_nil PG)) k_leqSaid (by kernel_rfl)
theorem e_leqSaid (n : Nat) (a0 : Int × Int × Int × Int × Int × Int) (a1 : Int × Int × Int × Int × Int × Int) : f_leqSaid n (a0, a1) =
  bif !decide (a0.1 = a1.1) then
   some (false, ())
  else Option.bind (g_leqAsk ((a0.2.1, a0.2.2.1, a0.2.2.2.1, a0.2.2.2.2.1), (a1.2.1, a1.2.2.1, a1.2.2.2.1, a1.2.2.2.2.1))) fun r0 =>
  bif !r0.1 then
   some (false, ())
  else bif !decide (a0.2.2.2.2.2 = a1.2.2.2.2.2) then
   some (false, ())
  else some (true, ()) := by kernel_rfl
/- laws.eqSaidS -/
def c_leqSaidS : TC :=
 (.seq (.rg [o1 4 (.lit [.b] [.bool false])])
 (.seq (.seq (.rg [o1 6 (.copy 0),
   o1 7 (.len 6),
   o1 8 (.copy 1),
   o1 9 (.len 8),
   o1 10 (.data (.bin .neq) [.t 7, .t 9])])
 (.cond (.t 10)
  (.seq (.rg [o1 4 (.lit [.b] [.bool false])])
  .ret)
  .skip))
 (.seq (.join [] 134215728 (some [⟨4, [.b], false⟩]) (.seq (.rg [o1 5 (.lit [.i .i64] [.int .i64 (0)])])
 (.block 0 (.loop [⟨5, [.i .i64], false⟩] 134215728
  (.seq (.seq (.rg [o1 11 (.copy 5),
    o1 12 (.copy 0),
    o1 13 (.len 12),
    o1 14 (.data (.bin .lss) [.t 11, .t 13])])
  (.cond (.t 14)
   .skip
   (.exit 0)))
  (.seq (.block 1 (.seq (.rg [o1 17 (.copy 0),
    o1 18 (.copy 5),
    o1 19 (.index 17 (.t 18)),
    o1 20 (.load 17 [(0, 6)] 0 (.t 19) 6 false),
    o1 21 (.copy 1),
    o1 22 (.copy 5),
    o1 23 (.index 21 (.t 22)),
    o1 24 (.load 21 [(0, 6)] 0 (.t 23) 6 false),
    o3 25 217 [.t 20, .t 24],
    o1 26 (.data .not [.t 25])])
  (.cond (.t 26)
   (.seq (.rg [o1 4 (.lit [.b] [.bool false])])
   .ret)
   .skip)))
  (.rg [o1 15 (.copy 5),
    o1 16 (.data (.bin .add) [.t 15, .c (.int .i64 (1))]),
    o1 5 (.copy 16)])))))))
 (.seq (.rg [o1 4 (.lit [.b] [.bool true])])
 .ret))))
def s_leqSaidS : Sig := ⟨[.rd false [.sl (.own none) [.d, .d, .d, .d, .d, .d]], .rd false [.sl (.own none) [.d, .d, .d, .d, .d, .d]]], (.one false [.d])⟩
noncomputable def E_leqSaidS : TEnv := envOf [(217, p_leqSaid)]
noncomputable def f_leqSaidS (n : Nat) : (List (Int × Int × Int × Int × Int × Int)) × (List (Int × Int × Int × Int × Int × Int)) → Option ((Bool) × Unit) := runFn n E_leqSaidS c_leqSaidS [[.sl [.i .i64, .i .i64, .i .i64, .i .i64, .i .i64, .i .i64]], [.sl [.i .i64, .i .i64, .i .i64, .i .i64, .i .i64, .i .i64]]] [.b] [] [4] .no
noncomputable def g_leqSaidS := f_leqSaidS BIG
noncomputable def p_leqSaidS : TSp := ⟨s_leqSaidS, [[.sl [.i .i64, .i .i64, .i .i64, .i .i64, .i .i64, .i .i64]], [.sl [.i .i64, .i .i64, .i .i64, .i .i64, .i .i64, .i .i64]]], [.b], [], Ou.j .no, g_leqSaidS⟩
theorem k_leqSaidS : chkW PG E_leqSaidS 87 s_leqSaidS (c_leqSaidS.ht 27) .no = some (c_leqSaidS.wc E_leqSaidS, [4]) := by kernel_rfl
theorem ok_leqSaidS : p_leqSaidS.Ok PG 87 := mkOk (env_cons ok_leqSaid (env_nil PG)) k_leqSaidS (by kernel_rfl)
theorem e_leqSaidS (n : Nat) (a0 : List (Int × Int × Int × Int × Int × Int)) (a1 : List (Int × Int × Int × Int × Int × Int)) : f_leqSaidS n (a0, a1) =
  bif !decide ((a0.length : Int) = (a1.length : Int)) then
   some (false, ())
  else Option.bind (loopT n (X := Int) (B := (Unit) ⊕ (Bool)) (fun self1 x0 =>
    bif decide (x0 < (a0.length : Int)) then
     bnd a0.length x0 fun n2 =>
     Option.bind a0[n2]? fun y3 =>
     bnd a1.length x0 fun n4 =>
     Option.bind a1[n4]? fun y5 =>
     Option.bind (g_leqSaid (y3, y5)) fun r6 =>
     bif !r6.1 then
      some (Sum.inr false)
     else self1 (IntKind.wrap .i64 (x0 + (1 : Int)))
    else some (Sum.inl ())) (0 : Int) : Option ((Unit) ⊕ (Bool))) fun y => match y with
  | .inl x7 =>
   some (true, ())
  | .inr x7 =>
   some (x7, ()) := by kernel_rfl
/- laws.eqHead -/
def c_leqHead : TC :=
 (.seq (.rg [o1 2 (.a (.t 0)),
   o1 3 (.a (.t 1)),
   o1 4 (.lit [.b] [.bool false])])
 (.seq (.seq (.rg [o1 5 (.idx .nil),
   o1 6 (.load 2 [] 0 (.t 5) 1 false),
   o1 7 (.idx .nil),
   o1 8 (.load 3 [] 0 (.t 7) 1 false),
   o1 9 (.data (.bin .neq) [.t 6, .t 8])])
 (.cond (.t 9)
  (.seq (.rg [o1 4 (.lit [.b] [.bool false])])
  .ret)
  .skip))
 (.seq (.seq (.rg [o1 10 (.idx .nil),
   o1 11 (.load 2 [] 1 (.t 10) 1 false),
   o1 12 (.idx .nil),
   o1 13 (.load 3 [] 1 (.t 12) 1 false),
   o3 14 39 [.t 11, .t 13],
   o1 15 (.data .not [.t 14])])
 (.cond (.t 15)
  (.seq (.rg [o1 4 (.lit [.b] [.bool false])])
  .ret)
  .skip))
 (.seq (.seq (.rg [o1 16 (.idx .nil),
   o1 17 (.load 2 [] 2 (.t 16) 1 false),
   o1 18 (.idx .nil),
   o1 19 (.load 3 [] 2 (.t 18) 1 false),
   o3 20 41 [.t 17, .t 19],
   o1 21 (.data .not [.t 20])])
 (.cond (.t 21)
  (.seq (.rg [o1 4 (.lit [.b] [.bool false])])
  .ret)
  .skip))
 (.seq (.seq (.rg [o1 22 (.idx .nil),
   o1 23 (.load 2 [] 3 (.t 22) 1 false),
   o1 24 (.idx .nil),
   o1 25 (.load 3 [] 3 (.t 24) 1 false),
   o3 26 40 [.t 23, .t 25],
   o1 27 (.data .not [.t 26])])
 (.cond (.t 27)
  (.seq (.rg [o1 4 (.lit [.b] [.bool false])])
  .ret)
  .skip))
 (.seq (.seq (.rg [o1 28 (.idx .nil),
   o1 29 (.load 2 [] 4 (.t 28) 1 false),
   o1 30 (.idx .nil),
   o1 31 (.load 3 [] 4 (.t 30) 1 false),
   o3 32 39 [.t 29, .t 31],
   o1 33 (.data .not [.t 32])])
 (.cond (.t 33)
  (.seq (.rg [o1 4 (.lit [.b] [.bool false])])
  .ret)
  .skip))
 (.seq (.seq (.rg [o1 34 (.idx .nil),
   o1 35 (.load 2 [] 5 (.t 34) 9 false),
   o1 36 (.idx .nil),
   o1 37 (.load 3 [] 5 (.t 36) 9 false),
   o3 38 199 [.t 35, .t 37],
   o1 39 (.data .not [.t 38])])
 (.cond (.t 39)
  (.seq (.rg [o1 4 (.lit [.b] [.bool false])])
  .ret)
  .skip))
 (.seq (.seq (.rg [o1 40 (.idx .nil),
   o1 41 (.load 2 [] 14 (.t 40) 1 false),
   o1 42 (.idx .nil),
   o1 43 (.load 3 [] 14 (.t 42) 1 false),
   o3 44 87 [.t 41, .t 43],
   o1 45 (.data .not [.t 44])])
 (.cond (.t 45)
  (.seq (.rg [o1 4 (.lit [.b] [.bool false])])
  .ret)
  .skip))
 (.seq (.rg [o1 4 (.lit [.b] [.bool true])])
 .ret)))))))))
def s_leqHead : Sig := ⟨[.rd true [.d, .sl (.own none) [.d], .sl (.own none) [.d, .d], .sl (.own none) [.sl (.own none) [.d]], .sl (.own none) [.d], .d, .d, .d, .d, .d, .d, .d, .sl (.own none) [.d, .d], .d, .sl (.own none) [.d, .d, .d, .d, .d, .d]], .rd true [.d, .sl (.own none) [.d], .sl (.own none) [.d, .d], .sl (.own none) [.sl (.own none) [.d]], .sl (.own none) [.d], .d, .d, .d, .d, .d, .d, .d, .sl (.own none) [.d, .d], .d, .sl (.own none) [.d, .d, .d, .d, .d, .d]]], (.one false [.d])⟩
noncomputable def E_leqHead : TEnv := envOf [(39, p_leqIntS), (41, p_leqEdgeS), (40, p_leqIntSS), (199, p_leqTask), (87, p_leqSaidS)]
noncomputable def f_leqHead (n : Nat) : (Int × List (Int) × List (Int × Int) × List (List (Int)) × List (Int) × Int × Int × Int × Int × Int × Int × Int × List (Int × Int) × Int × List (Int × Int × Int × Int × Int × Int)) × (Int × List (Int) × List (Int × Int) × List (List (Int)) × List (Int) × Int × Int × Int × Int × Int × Int × Int × List (Int × Int) × Int × List (Int × Int × Int × Int × Int × Int)) → Option ((Bool) × Unit) := runFn n E_leqHead c_leqHead [[.i .i64, .sl [.i .i64], .sl [.i .i64, .i .i64], .sl [.sl [.i .i64]], .sl [.i .i64], .i .i64, .i .i64, .i .i64, .i .i64, .i .i64, .i .i64, .i .i64, .sl [.i .i64, .i .i64], .i .i64, .sl [.i .i64, .i .i64, .i .i64, .i .i64, .i .i64, .i .i64]], [.i .i64, .sl [.i .i64], .sl [.i .i64, .i .i64], .sl [.sl [.i .i64]], .sl [.i .i64], .i .i64, .i .i64, .i .i64, .i .i64, .i .i64, .i .i64, .i .i64, .sl [.i .i64, .i .i64], .i .i64, .sl [.i .i64, .i .i64, .i .i64, .i .i64, .i .i64, .i .i64]]] [.b] [] [4] .no
noncomputable def g_leqHead := f_leqHead BIG
noncomputable def p_leqHead : TSp := ⟨s_leqHead, [[.i .i64, .sl [.i .i64], .sl [.i .i64, .i .i64], .sl [.sl [.i .i64]], .sl [.i .i64], .i .i64, .i .i64, .i .i64, .i .i64, .i .i64, .i .i64, .i .i64, .sl [.i .i64, .i .i64], .i .i64, .sl [.i .i64, .i .i64, .i .i64, .i .i64, .i .i64, .i .i64]], [.i .i64, .sl [.i .i64], .sl [.i .i64, .i .i64], .sl [.sl [.i .i64]], .sl [.i .i64], .i .i64, .i .i64, .i .i64, .i .i64, .i .i64, .i .i64, .i .i64, .sl [.i .i64, .i .i64], .i .i64, .sl [.i .i64, .i .i64, .i .i64, .i .i64, .i .i64, .i .i64]]], [.b], [], Ou.j .no, g_leqHead⟩
theorem k_leqHead : chkW PG E_leqHead 68 s_leqHead (c_leqHead.ht 46) .no = some (c_leqHead.wc E_leqHead, [4]) := by kernel_rfl
theorem ok_leqHead : p_leqHead.Ok PG 68 := mkOk (env_cons ok_leqIntS (env_cons ok_leqEdgeS (env_cons ok_leqIntSS (env_cons ok_leqTask (env_cons ok_leqSaidS (env_nil PG)))))) k_leqHead (by kernel_rfl)
theorem e_leqHead (n : Nat) (a0 : Int × List (Int) × List (Int × Int) × List ((List (Int))) × List (Int) × Int × Int × Int × Int × Int × Int × Int × List (Int × Int) × Int × List (Int × Int × Int × Int × Int × Int)) (a1 : Int × List (Int) × List (Int × Int) × List ((List (Int))) × List (Int) × Int × Int × Int × Int × Int × Int × Int × List (Int × Int) × Int × List (Int × Int × Int × Int × Int × Int)) : f_leqHead n (a0, a1) =
  bif !decide (a0.1 = a1.1) then
   some (false, ())
  else Option.bind (g_leqIntS (a0.2.1, a1.2.1)) fun r0 =>
  bif !r0.1 then
   some (false, ())
  else Option.bind (g_leqEdgeS (a0.2.2.1, a1.2.2.1)) fun r1 =>
  bif !r1.1 then
   some (false, ())
  else Option.bind (g_leqIntSS (a0.2.2.2.1, a1.2.2.2.1)) fun r2 =>
  bif !r2.1 then
   some (false, ())
  else Option.bind (g_leqIntS (a0.2.2.2.2.1, a1.2.2.2.2.1)) fun r3 =>
  bif !r3.1 then
   some (false, ())
  else Option.bind (g_leqTask ((a0.2.2.2.2.2.1, a0.2.2.2.2.2.2.1, a0.2.2.2.2.2.2.2.1, a0.2.2.2.2.2.2.2.2.1, a0.2.2.2.2.2.2.2.2.2.1, a0.2.2.2.2.2.2.2.2.2.2.1, a0.2.2.2.2.2.2.2.2.2.2.2.1, a0.2.2.2.2.2.2.2.2.2.2.2.2.1, a0.2.2.2.2.2.2.2.2.2.2.2.2.2.1), (a1.2.2.2.2.2.1, a1.2.2.2.2.2.2.1, a1.2.2.2.2.2.2.2.1, a1.2.2.2.2.2.2.2.2.1, a1.2.2.2.2.2.2.2.2.2.1, a1.2.2.2.2.2.2.2.2.2.2.1, a1.2.2.2.2.2.2.2.2.2.2.2.1, a1.2.2.2.2.2.2.2.2.2.2.2.2.1, a1.2.2.2.2.2.2.2.2.2.2.2.2.2.1))) fun r4 =>
  bif !r4.1 then
   some (false, ())
  else Option.bind (g_leqSaidS (a0.2.2.2.2.2.2.2.2.2.2.2.2.2.2, a1.2.2.2.2.2.2.2.2.2.2.2.2.2.2)) fun r5 =>
  bif !r5.1 then
   some (false, ())
  else some (true, ()) := by kernel_rfl
/- laws.FnExactReplyOf -/
def c_lFnExactReplyOf : TC :=
 (.seq (.rg [o1 2 (.a (.t 0)),
   o1 4 (.lit [.b] [.bool false])])
 (.seq (.rg [o1 5 (.lit [.i .i64] [.int .i64 (1048576)])])
 (.seq (.rg [o1 11 (.load 2 [] 0 .nil 15 false),
   o1 12 (.copy 5),
   o3 13 64 [.t 11, .t 12],
   o1 5 (.copy 13)])
 (.seq (.seq (.rg [o1 14 (.copy 5),
   o1 15 (.data (.bin .lss) [.t 14, .c (.int .i64 (0))])])
 (.cond (.t 15)
  (.seq (.rg [o1 4 (.lit [.b] [.bool true])])
  .ret)
  .skip))
 (.seq (.rg [o1 17 (.load 2 [] 0 .nil 15 false),
   o3 18 66 [.t 17],
   o1 19 (.copy 1),
   o3 20 69 [.t 18, .t 19],
   ⟨false, [], [], .det 2 (.copy 20), [16, 20], (some 16), none⟩,
   o1 21 (.ext 16 0 1),
   o1 22 (.ext 16 1 1),
   o1 6 (.copy 21),
   o1 7 (.copy 22)])
 (.seq (.rg [o1 23 (.load 2 [] 0 .nil 15 false),
   o3 24 66 [.t 23],
   ⟨false, [], [], .det 2 (.a (.c [.i .i64, .sl [.i .i64], .sl [.i .i64, .i .i64], .sl [.sl [.i .i64]], .sl [.i .i64], .i .i64, .i .i64, .i .i64, .i .i64, .i .i64, .i .i64, .i .i64, .sl [.i .i64, .i .i64], .i .i64, .sl [.i .i64, .i .i64, .i .i64, .i .i64, .i .i64, .i .i64]] [.int .i64 (0), .slice none 0 0, .slice none 0 0, .slice none 0 0, .slice none 0 0, .int .i64 (0), .int .i64 (0), .int .i64 (0), .int .i64 (0), .int .i64 (0), .int .i64 (0), .int .i64 (0), .slice none 0 0, .int .i64 (0), .slice none 0 0])), [8, 1000000001], (some 8), none⟩,
   o4 2 [8, 24] (.store 8 [] 0 .nil (.t 24))])
 (.seq (.rg [o1 26 (.load 8 [] 0 .nil 15 true),
   o1 27 (.copy 1),
   o3 28 70 [.t 26, .t 27],
   ⟨false, [], [], .det 2 (.copy 28), [25, 28], (some 25), none⟩,
   o1 29 (.ext 25 0 1),
   o1 30 (.ext 25 1 1),
   o1 9 (.copy 29),
   o1 10 (.copy 30)])
 (.seq (.seq (.join [⟨38, [.b], false⟩] 547608330240 none (.rg [o1 31 (.copy 9),
   o1 32 (.copy 6),
   o1 33 (.data (.bin .neq) [.t 31, .t 32]),
   o1 34 (.copy 33),
   o2 35 (.copy 10) 3 false,
   o2 36 (.copy 7) 3 false,
   o2 37 (.data (.beq true) [.t 35, .t 36]) 3 false,
   ⟨false, [], [], .pick 34 (.c (.bool true)) (.t 37), [38], (some 38), none⟩]))
 (.cond (.t 38)
  (.seq (.rg [o1 4 (.lit [.b] [.bool false])])
  .ret)
  .skip))
 (.seq (.seq (.rg [o1 39 (.load 8 [] 0 .nil 15 true),
   o1 40 (.load 2 [] 0 .nil 15 false),
   o3 41 66 [.t 40],
   o3 42 68 [.t 39, .t 41],
   o1 43 (.data .not [.t 42])])
 (.cond (.t 43)
  (.seq (.rg [o1 4 (.lit [.b] [.bool false])])
  .ret)
  .skip))
 (.seq (.rg [o1 4 (.lit [.b] [.bool true])])
 .ret))))))))))
def s_lFnExactReplyOf : Sig := ⟨[.rd true [.d, .sl (.own none) [.d], .sl (.own none) [.d, .d], .sl (.own none) [.sl (.own none) [.d]], .sl (.own none) [.d], .d, .d, .d, .d, .d, .d, .d, .sl (.own none) [.d, .d], .d, .sl (.own none) [.d, .d, .d, .d, .d, .d]], .rd false [.d]], (.one false [.d])⟩
noncomputable def E_lFnExactReplyOf : TEnv := envOf [(64, p_lszHead), (66, p_ltoHead), (69, p_sReplyOf), (70, p_iReplyOf), (68, p_leqHead)]
noncomputable def f_lFnExactReplyOf (n : Nat) : (Int × List (Int) × List (Int × Int) × List (List (Int)) × List (Int) × Int × Int × Int × Int × Int × Int × Int × List (Int × Int) × Int × List (Int × Int × Int × Int × Int × Int)) × Int → Option ((Bool) × Unit) := runFn n E_lFnExactReplyOf c_lFnExactReplyOf [[.i .i64, .sl [.i .i64], .sl [.i .i64, .i .i64], .sl [.sl [.i .i64]], .sl [.i .i64], .i .i64, .i .i64, .i .i64, .i .i64, .i .i64, .i .i64, .i .i64, .sl [.i .i64, .i .i64], .i .i64, .sl [.i .i64, .i .i64, .i .i64, .i .i64, .i .i64, .i .i64]], [.i .i64]] [.b] [] [4] .no
noncomputable def g_lFnExactReplyOf := f_lFnExactReplyOf BIG
noncomputable def p_lFnExactReplyOf : TSp := ⟨s_lFnExactReplyOf, [[.i .i64, .sl [.i .i64], .sl [.i .i64, .i .i64], .sl [.sl [.i .i64]], .sl [.i .i64], .i .i64, .i .i64, .i .i64, .i .i64, .i .i64, .i .i64, .i .i64, .sl [.i .i64, .i .i64], .i .i64, .sl [.i .i64, .i .i64, .i .i64, .i .i64, .i .i64, .i .i64]], [.i .i64]], [.b], [], Ou.j .no, g_lFnExactReplyOf⟩
theorem k_lFnExactReplyOf : chkW PG E_lFnExactReplyOf 10 s_lFnExactReplyOf (c_lFnExactReplyOf.ht 44) .no = some (c_lFnExactReplyOf.wc E_lFnExactReplyOf, [4]) := by kernel_rfl
theorem ok_lFnExactReplyOf : p_lFnExactReplyOf.Ok PG 10 := mkOk (env_cons ok_lszHead (env_cons ok_ltoHead (env_cons ok_sReplyOf (env_cons ok_iReplyOf (env_cons ok_leqHead (env_nil PG)))))) k_lFnExactReplyOf (by kernel_rfl)
theorem e_lFnExactReplyOf (n : Nat) (a0 : Int × List (Int) × List (Int × Int) × List ((List (Int))) × List (Int) × Int × Int × Int × Int × Int × Int × Int × List (Int × Int) × Int × List (Int × Int × Int × Int × Int × Int)) (a1 : Int) : f_lFnExactReplyOf n (a0, a1) =
  Option.bind (g_lszHead (a0, (1048576 : Int))) fun r0 =>
  bif decide (r0.1 < (0 : Int)) then
   some (true, ())
  else Option.bind (g_ltoHead a0) fun r1 =>
  Option.bind (g_sReplyOf (r1.1, a1)) fun r2 =>
  Option.bind (g_ltoHead a0) fun r3 =>
  Option.bind (g_iReplyOf (r3.1, a1)) fun r4 =>
  Option.bind (bif !decide (r4.1.1 = r2.1.1) then
    some true
   else some (!(r4.1.2 == r2.1.2)) : Option (Bool)) fun x5 =>
  bif x5 then
   some (false, ())
  else Option.bind (g_ltoHead a0) fun r6 =>
  Option.bind (g_leqHead (r3.1, r6.1)) fun r7 =>
  bif !r7.1 then
   some (false, ())
  else some (true, ()) := by kernel_rfl
end Go.Fw
