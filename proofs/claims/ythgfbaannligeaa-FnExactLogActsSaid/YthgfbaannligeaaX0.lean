/- The given functions, as what they compute; each is shown to be what the code does. No conditions. -/
import Derived.Test.YthgfbaannligeaaG4
import Derived.Test.YthgfbaannligeaaProg
set_option linter.unusedVariables false
set_option linter.unusedSimpArgs false
namespace Go.Fw
noncomputable abbrev PG := Go.Proofs.Try.prog
def o2 (d : Nat) (e : ED) (j : Nat) (b : Bool) : TO := ⟨false, [], [], .det 1 e, [d], some d, some (j, b)⟩
def o3 (d : Nat) (K : FuncId) (gets : List OY) : TO := ⟨false, [], [], .call 1 K gets .no, [d], some d, none⟩
def o4 (n : Nat) (ds : List Nat) (e : ED) : TO := ⟨false, [], [], .det n e, ds, none, none⟩
end Go.Fw
namespace Go.Fw
/- laws.szFile -/
def c_lszFile : TC :=
 (.seq (.rg [o1 2 (.a (.t 0)),
   o1 4 (.lit [.i .i64] [.int .i64 (0)])])
 (.seq (.rg [o1 5 (.copy 1),
   o1 6 (.idx .nil),
   o1 7 (.load 2 [] 0 (.t 6) 1 false),
   o1 8 (.data .slen [.t 7]),
   o1 9 (.data (.bin .sub) [.t 5, .t 8]),
   o1 1 (.copy 9)])
 (.seq (.seq (.rg [o1 10 (.copy 1),
   o1 11 (.data (.bin .lss) [.t 10, .c (.int .i64 (0))])])
 (.cond (.t 11)
  (.seq (.rg [o1 4 (.lit [.i .i64] [.int .i64 (-1)])])
  .ret)
  .skip))
 (.seq (.rg [o1 12 (.copy 1),
   o1 13 (.idx .nil),
   o1 14 (.load 2 [] 1 (.t 13) 1 false),
   o1 15 (.data .slen [.t 14]),
   o1 16 (.data (.bin .sub) [.t 12, .t 15]),
   o1 1 (.copy 16)])
 (.seq (.seq (.rg [o1 17 (.copy 1),
   o1 18 (.data (.bin .lss) [.t 17, .c (.int .i64 (0))])])
 (.cond (.t 18)
  (.seq (.rg [o1 4 (.lit [.i .i64] [.int .i64 (-1)])])
  .ret)
  .skip))
 (.seq (.rg [o1 19 (.copy 1),
   o1 4 (.copy 19)])
 .ret))))))
def s_lszFile : Sig := ⟨[.rd true [.d, .d, .d], .rd false [.d]], (.one false [.d])⟩
noncomputable def E_lszFile : TEnv := envOf []
noncomputable def f_lszFile (n : Nat) : (ByteArray × ByteArray × Int) × Int → Option ((Int) × Unit) := runFn n E_lszFile c_lszFile [[.s, .s, .i .i64], [.i .i64]] [.i .i64] [] [4] .no
noncomputable def g_lszFile := f_lszFile BIG
noncomputable def p_lszFile : TSp := ⟨s_lszFile, [[.s, .s, .i .i64], [.i .i64]], [.i .i64], [], Ou.j .no, g_lszFile⟩
theorem k_lszFile : chkW PG E_lszFile 340 s_lszFile (c_lszFile.ht 20) .no = some (c_lszFile.wc E_lszFile, [4]) := by kernel_rfl
theorem ok_lszFile : p_lszFile.Ok PG 340 := mkOk (env_nil PG) k_lszFile (by kernel_rfl)
theorem e_lszFile (n : Nat) (a0 : ByteArray × ByteArray × Int) (a1 : Int) : f_lszFile n (a0, a1) =
  bif decide ((IntKind.wrap .i64 (a1 - (a0.1.size : Int))) < (0 : Int)) then
   some ((-1 : Int), ())
  else bif decide ((IntKind.wrap .i64 ((IntKind.wrap .i64 (a1 - (a0.1.size : Int))) - (a0.2.1.size : Int))) < (0 : Int)) then
   some ((-1 : Int), ())
  else some (IntKind.wrap .i64 ((IntKind.wrap .i64 (a1 - (a0.1.size : Int))) - (a0.2.1.size : Int)), ()) := by kernel_rfl
/- laws.szFileS -/
def c_lszFileS : TC :=
 (.seq (.rg [o1 4 (.lit [.i .i64] [.int .i64 (0)])])
 (.seq (.rg [o1 6 (.copy 1),
   o1 7 (.copy 0),
   o1 8 (.len 7),
   o1 9 (.data (.bin .sub) [.t 6, .t 8]),
   o1 1 (.copy 9)])
 (.seq (.seq (.rg [o1 10 (.copy 1),
   o1 11 (.data (.bin .lss) [.t 10, .c (.int .i64 (0))])])
 (.cond (.t 11)
  (.seq (.rg [o1 4 (.lit [.i .i64] [.int .i64 (-1)])])
  .ret)
  .skip))
 (.seq (.join [⟨1, [.i .i64], false⟩] 67104818 (some [⟨4, [.i .i64], false⟩]) (.seq (.rg [o1 5 (.lit [.i .i64] [.int .i64 (0)])])
 (.block 0 (.loop [⟨1, [.i .i64], false⟩, ⟨5, [.i .i64], false⟩] 67104818
  (.seq (.seq (.rg [o1 12 (.copy 5),
    o1 13 (.copy 0),
    o1 14 (.len 13),
    o1 15 (.data (.bin .lss) [.t 12, .t 14])])
  (.cond (.t 15)
   .skip
   (.exit 0)))
  (.seq (.block 1 (.seq (.rg [o1 18 (.copy 0),
    o1 19 (.copy 5),
    o1 20 (.index 18 (.t 19)),
    o1 21 (.load 18 [(0, 3)] 0 (.t 20) 3 false),
    o1 22 (.copy 1),
    o3 23 340 [.t 21, .t 22],
    o1 1 (.copy 23)])
  (.seq (.rg [o1 24 (.copy 1),
    o1 25 (.data (.bin .lss) [.t 24, .c (.int .i64 (0))])])
  (.cond (.t 25)
   (.seq (.rg [o1 4 (.lit [.i .i64] [.int .i64 (-1)])])
   .ret)
   .skip))))
  (.rg [o1 16 (.copy 5),
    o1 17 (.data (.bin .add) [.t 16, .c (.int .i64 (1))]),
    o1 5 (.copy 17)])))))))
 (.seq (.rg [o1 26 (.copy 1),
   o1 4 (.copy 26)])
 .ret)))))
def s_lszFileS : Sig := ⟨[.rd false [.sl (.own none) [.d, .d, .d]], .rd false [.d]], (.one false [.d])⟩
noncomputable def E_lszFileS : TEnv := envOf [(340, p_lszFile)]
noncomputable def f_lszFileS (n : Nat) : (List (ByteArray × ByteArray × Int)) × Int → Option ((Int) × Unit) := runFn n E_lszFileS c_lszFileS [[.sl [.s, .s, .i .i64]], [.i .i64]] [.i .i64] [] [4] .no
noncomputable def g_lszFileS := f_lszFileS BIG
noncomputable def p_lszFileS : TSp := ⟨s_lszFileS, [[.sl [.s, .s, .i .i64]], [.i .i64]], [.i .i64], [], Ou.j .no, g_lszFileS⟩
theorem k_lszFileS : chkW PG E_lszFileS 281 s_lszFileS (c_lszFileS.ht 27) .no = some (c_lszFileS.wc E_lszFileS, [4]) := by kernel_rfl
theorem ok_lszFileS : p_lszFileS.Ok PG 281 := mkOk (env_cons ok_lszFile (env_nil PG)) k_lszFileS (by kernel_rfl)
theorem e_lszFileS (n : Nat) (a0 : List (ByteArray × ByteArray × Int)) (a1 : Int) : f_lszFileS n (a0, a1) =
  bif decide ((IntKind.wrap .i64 (a1 - (a0.length : Int))) < (0 : Int)) then
   some ((-1 : Int), ())
  else Option.bind (loopT n (X := Int × Int) (B := (Int) ⊕ (Int)) (fun self1 x0 =>
    bif decide (x0.2 < (a0.length : Int)) then
     bnd a0.length x0.2 fun n2 =>
     Option.bind a0[n2]? fun y3 =>
     Option.bind (g_lszFile (y3, x0.1)) fun r4 =>
     bif decide (r4.1 < (0 : Int)) then
      some (Sum.inr (-1 : Int))
     else self1 (r4.1, IntKind.wrap .i64 (x0.2 + (1 : Int)))
    else some (Sum.inl x0.1)) (IntKind.wrap .i64 (a1 - (a0.length : Int)), (0 : Int)) : Option ((Int) ⊕ (Int))) fun y => match y with
  | .inl x5 =>
   some (x5, ())
  | .inr x5 =>
   some (x5, ()) := by kernel_rfl
/- laws.szDisk -/
def c_lszDisk : TC :=
 (.seq (.rg [o1 2 (.a (.t 0)),
   o1 4 (.lit [.i .i64] [.int .i64 (0)])])
 (.seq (.rg [o1 5 (.idx .nil),
   o1 6 (.load 2 [] 0 (.t 5) 1 false),
   o1 7 (.copy 1),
   o3 8 281 [.t 6, .t 7],
   o1 1 (.copy 8)])
 (.seq (.seq (.rg [o1 9 (.copy 1),
   o1 10 (.data (.bin .lss) [.t 9, .c (.int .i64 (0))])])
 (.cond (.t 10)
  (.seq (.rg [o1 4 (.lit [.i .i64] [.int .i64 (-1)])])
  .ret)
  .skip))
 (.seq (.rg [o1 11 (.copy 1),
   o1 4 (.copy 11)])
 .ret))))
def s_lszDisk : Sig := ⟨[.rd true [.sl (.own none) [.d, .d, .d]], .rd false [.d]], (.one false [.d])⟩
noncomputable def E_lszDisk : TEnv := envOf [(281, p_lszFileS)]
noncomputable def f_lszDisk (n : Nat) : (List (ByteArray × ByteArray × Int)) × Int → Option ((Int) × Unit) := runFn n E_lszDisk c_lszDisk [[.sl [.s, .s, .i .i64]], [.i .i64]] [.i .i64] [] [4] .no
noncomputable def g_lszDisk := f_lszDisk BIG
noncomputable def p_lszDisk : TSp := ⟨s_lszDisk, [[.sl [.s, .s, .i .i64]], [.i .i64]], [.i .i64], [], Ou.j .no, g_lszDisk⟩
theorem k_lszDisk : chkW PG E_lszDisk 142 s_lszDisk (c_lszDisk.ht 12) .no = some (c_lszDisk.wc E_lszDisk, [4]) := by kernel_rfl
theorem ok_lszDisk : p_lszDisk.Ok PG 142 := mkOk (env_cons ok_lszFileS (env_nil PG)) k_lszDisk (by kernel_rfl)
theorem e_lszDisk (n : Nat) (a0 : List (ByteArray × ByteArray × Int)) (a1 : Int) : f_lszDisk n (a0, a1) =
  Option.bind (g_lszFileS (a0, a1)) fun r0 =>
  bif decide (r0.1 < (0 : Int)) then
   some ((-1 : Int), ())
  else some (r0.1, ()) := by kernel_rfl
/- laws.szEdgeS -/
def c_lszEdgeS : TC :=
 (.seq (.rg [o1 4 (.lit [.i .i64] [.int .i64 (0)])])
 (.seq (.rg [o1 5 (.copy 1),
   o1 6 (.copy 0),
   o1 7 (.len 6),
   o1 8 (.data (.bin .sub) [.t 5, .t 7]),
   o1 1 (.copy 8)])
 (.seq (.seq (.rg [o1 9 (.copy 1),
   o1 10 (.data (.bin .lss) [.t 9, .c (.int .i64 (0))])])
 (.cond (.t 10)
  (.seq (.rg [o1 4 (.lit [.i .i64] [.int .i64 (-1)])])
  .ret)
  .skip))
 (.seq (.rg [o1 11 (.copy 1),
   o1 4 (.copy 11)])
 .ret))))
def s_lszEdgeS : Sig := ⟨[.rd false [.sl (.own none) [.d, .d]], .rd false [.d]], (.one false [.d])⟩
noncomputable def E_lszEdgeS : TEnv := envOf []
noncomputable def f_lszEdgeS (n : Nat) : (List (Int × Int)) × Int → Option ((Int) × Unit) := runFn n E_lszEdgeS c_lszEdgeS [[.sl [.i .i64, .i .i64]], [.i .i64]] [.i .i64] [] [4] .no
noncomputable def g_lszEdgeS := f_lszEdgeS BIG
noncomputable def p_lszEdgeS : TSp := ⟨s_lszEdgeS, [[.sl [.i .i64, .i .i64]], [.i .i64]], [.i .i64], [], Ou.j .no, g_lszEdgeS⟩
theorem k_lszEdgeS : chkW PG E_lszEdgeS 34 s_lszEdgeS (c_lszEdgeS.ht 12) .no = some (c_lszEdgeS.wc E_lszEdgeS, [4]) := by kernel_rfl
theorem ok_lszEdgeS : p_lszEdgeS.Ok PG 34 := mkOk (env_nil PG) k_lszEdgeS (by kernel_rfl)
theorem e_lszEdgeS (n : Nat) (a0 : List (Int × Int)) (a1 : Int) : f_lszEdgeS n (a0, a1) =
  bif decide ((IntKind.wrap .i64 (a1 - (a0.length : Int))) < (0 : Int)) then
   some ((-1 : Int), ())
  else some (IntKind.wrap .i64 (a1 - (a0.length : Int)), ()) := by kernel_rfl
/- laws.szIntS -/
def c_lszIntS : TC :=
 (.seq (.rg [o1 4 (.lit [.i .i64] [.int .i64 (0)])])
 (.seq (.rg [o1 5 (.copy 1),
   o1 6 (.copy 0),
   o1 7 (.len 6),
   o1 8 (.data (.bin .sub) [.t 5, .t 7]),
   o1 1 (.copy 8)])
 (.seq (.seq (.rg [o1 9 (.copy 1),
   o1 10 (.data (.bin .lss) [.t 9, .c (.int .i64 (0))])])
 (.cond (.t 10)
  (.seq (.rg [o1 4 (.lit [.i .i64] [.int .i64 (-1)])])
  .ret)
  .skip))
 (.seq (.rg [o1 11 (.copy 1),
   o1 4 (.copy 11)])
 .ret))))
def s_lszIntS : Sig := ⟨[.rd false [.sl (.own none) [.d]], .rd false [.d]], (.one false [.d])⟩
noncomputable def E_lszIntS : TEnv := envOf []
noncomputable def f_lszIntS (n : Nat) : List (Int) × Int → Option ((Int) × Unit) := runFn n E_lszIntS c_lszIntS [[.sl [.i .i64]], [.i .i64]] [.i .i64] [] [4] .no
noncomputable def g_lszIntS := f_lszIntS BIG
noncomputable def p_lszIntS : TSp := ⟨s_lszIntS, [[.sl [.i .i64]], [.i .i64]], [.i .i64], [], Ou.j .no, g_lszIntS⟩
theorem k_lszIntS : chkW PG E_lszIntS 166 s_lszIntS (c_lszIntS.ht 12) .no = some (c_lszIntS.wc E_lszIntS, [4]) := by kernel_rfl
theorem ok_lszIntS : p_lszIntS.Ok PG 166 := mkOk (env_nil PG) k_lszIntS (by kernel_rfl)
theorem e_lszIntS (n : Nat) (a0 : List (Int)) (a1 : Int) : f_lszIntS n (a0, a1) =
  bif decide ((IntKind.wrap .i64 (a1 - (a0.length : Int))) < (0 : Int)) then
   some ((-1 : Int), ())
  else some (IntKind.wrap .i64 (a1 - (a0.length : Int)), ()) := by kernel_rfl
/- laws.szAnswer -/
def c_lszAnswer : TC :=
 (.seq (.rg [o1 2 (.a (.t 0)),
   o1 4 (.lit [.i .i64] [.int .i64 (0)])])
 (.seq (.rg [o1 5 (.idx .nil),
   o1 6 (.load 2 [] 2 (.t 5) 1 false),
   o1 7 (.copy 1),
   o3 8 34 [.t 6, .t 7],
   o1 1 (.copy 8)])
 (.seq (.seq (.rg [o1 9 (.copy 1),
   o1 10 (.data (.bin .lss) [.t 9, .c (.int .i64 (0))])])
 (.cond (.t 10)
  (.seq (.rg [o1 4 (.lit [.i .i64] [.int .i64 (-1)])])
  .ret)
  .skip))
 (.seq (.rg [o1 11 (.idx .nil),
   o1 12 (.load 2 [] 3 (.t 11) 1 false),
   o1 13 (.copy 1),
   o3 14 166 [.t 12, .t 13],
   o1 1 (.copy 14)])
 (.seq (.seq (.rg [o1 15 (.copy 1),
   o1 16 (.data (.bin .lss) [.t 15, .c (.int .i64 (0))])])
 (.cond (.t 16)
  (.seq (.rg [o1 4 (.lit [.i .i64] [.int .i64 (-1)])])
  .ret)
  .skip))
 (.seq (.rg [o1 17 (.copy 1),
   o1 4 (.copy 17)])
 .ret))))))
def s_lszAnswer : Sig := ⟨[.rd true [.d, .d, .sl (.own none) [.d, .d], .sl (.own none) [.d]], .rd false [.d]], (.one false [.d])⟩
noncomputable def E_lszAnswer : TEnv := envOf [(34, p_lszEdgeS), (166, p_lszIntS)]
noncomputable def f_lszAnswer (n : Nat) : (Int × Bool × List (Int × Int) × List (Int)) × Int → Option ((Int) × Unit) := runFn n E_lszAnswer c_lszAnswer [[.i .i64, .b, .sl [.i .i64, .i .i64], .sl [.i .i64]], [.i .i64]] [.i .i64] [] [4] .no
noncomputable def g_lszAnswer := f_lszAnswer BIG
noncomputable def p_lszAnswer : TSp := ⟨s_lszAnswer, [[.i .i64, .b, .sl [.i .i64, .i .i64], .sl [.i .i64]], [.i .i64]], [.i .i64], [], Ou.j .no, g_lszAnswer⟩
theorem k_lszAnswer : chkW PG E_lszAnswer 193 s_lszAnswer (c_lszAnswer.ht 18) .no = some (c_lszAnswer.wc E_lszAnswer, [4]) := by kernel_rfl
theorem ok_lszAnswer : p_lszAnswer.Ok PG 193 := mkOk (env_cons ok_lszEdgeS (env_cons ok_lszIntS (env_nil PG))) k_lszAnswer (by kernel_rfl)
theorem e_lszAnswer (n : Nat) (a0 : Int × Bool × List (Int × Int) × List (Int)) (a1 : Int) : f_lszAnswer n (a0, a1) =
  Option.bind (g_lszEdgeS (a0.2.2.1, a1)) fun r0 =>
  bif decide (r0.1 < (0 : Int)) then
   some ((-1 : Int), ())
  else Option.bind (g_lszIntS (a0.2.2.2, r0.1)) fun r1 =>
  bif decide (r1.1 < (0 : Int)) then
   some ((-1 : Int), ())
  else some (r1.1, ()) := by kernel_rfl
/- laws.szOrder -/
def c_lszOrder : TC :=
 (.seq (.rg [o1 2 (.a (.t 0)),
   o1 4 (.lit [.i .i64] [.int .i64 (0)])])
 (.seq (.rg [o1 5 (.idx .nil),
   o1 6 (.load 2 [] 2 (.t 5) 1 false),
   o1 7 (.copy 1),
   o3 8 34 [.t 6, .t 7],
   o1 1 (.copy 8)])
 (.seq (.seq (.rg [o1 9 (.copy 1),
   o1 10 (.data (.bin .lss) [.t 9, .c (.int .i64 (0))])])
 (.cond (.t 10)
  (.seq (.rg [o1 4 (.lit [.i .i64] [.int .i64 (-1)])])
  .ret)
  .skip))
 (.seq (.rg [o1 11 (.copy 1),
   o1 4 (.copy 11)])
 .ret))))
def s_lszOrder : Sig := ⟨[.rd true [.d, .d, .sl (.own none) [.d, .d], .d], .rd false [.d]], (.one false [.d])⟩
noncomputable def E_lszOrder : TEnv := envOf [(34, p_lszEdgeS)]
noncomputable def f_lszOrder (n : Nat) : (Int × Int × List (Int × Int) × Int) × Int → Option ((Int) × Unit) := runFn n E_lszOrder c_lszOrder [[.i .i64, .i .i64, .sl [.i .i64, .i .i64], .i .i64], [.i .i64]] [.i .i64] [] [4] .no
noncomputable def g_lszOrder := f_lszOrder BIG
noncomputable def p_lszOrder : TSp := ⟨s_lszOrder, [[.i .i64, .i .i64, .sl [.i .i64, .i .i64], .i .i64], [.i .i64]], [.i .i64], [], Ou.j .no, g_lszOrder⟩
theorem k_lszOrder : chkW PG E_lszOrder 229 s_lszOrder (c_lszOrder.ht 12) .no = some (c_lszOrder.wc E_lszOrder, [4]) := by kernel_rfl
theorem ok_lszOrder : p_lszOrder.Ok PG 229 := mkOk (env_cons ok_lszEdgeS (env_nil PG)) k_lszOrder (by kernel_rfl)
theorem e_lszOrder (n : Nat) (a0 : Int × Int × List (Int × Int) × Int) (a1 : Int) : f_lszOrder n (a0, a1) =
  Option.bind (g_lszEdgeS (a0.2.2.1, a1)) fun r0 =>
  bif decide (r0.1 < (0 : Int)) then
   some ((-1 : Int), ())
  else some (r0.1, ()) := by kernel_rfl
/- laws.szRec -/
def c_lszRec : TC :=
 (.seq (.rg [o1 2 (.a (.t 0)),
   o1 4 (.lit [.i .i64] [.int .i64 (0)])])
 (.seq (.rg [o1 5 (.idx .nil),
   o1 6 (.load 2 [] 6 (.t 5) 4 false),
   o1 7 (.copy 1),
   o3 8 193 [.t 6, .t 7],
   o1 1 (.copy 8)])
 (.seq (.seq (.rg [o1 9 (.copy 1),
   o1 10 (.data (.bin .lss) [.t 9, .c (.int .i64 (0))])])
 (.cond (.t 10)
  (.seq (.rg [o1 4 (.lit [.i .i64] [.int .i64 (-1)])])
  .ret)
  .skip))
 (.seq (.rg [o1 11 (.idx .nil),
   o1 12 (.load 2 [] 10 (.t 11) 4 false),
   o1 13 (.copy 1),
   o3 14 229 [.t 12, .t 13],
   o1 1 (.copy 14)])
 (.seq (.seq (.rg [o1 15 (.copy 1),
   o1 16 (.data (.bin .lss) [.t 15, .c (.int .i64 (0))])])
 (.cond (.t 16)
  (.seq (.rg [o1 4 (.lit [.i .i64] [.int .i64 (-1)])])
  .ret)
  .skip))
 (.seq (.rg [o1 17 (.copy 1),
   o1 4 (.copy 17)])
 .ret))))))
def s_lszRec : Sig := ⟨[.rd true [.d, .d, .d, .d, .d, .d, .d, .d, .sl (.own none) [.d, .d], .sl (.own none) [.d], .d, .d, .sl (.own none) [.d, .d], .d], .rd false [.d]], (.one false [.d])⟩
noncomputable def E_lszRec : TEnv := envOf [(193, p_lszAnswer), (229, p_lszOrder)]
noncomputable def f_lszRec (n : Nat) : (Int × Int × Int × Int × Int × Int × Int × Bool × List (Int × Int) × List (Int) × Int × Int × List (Int × Int) × Int) × Int → Option ((Int) × Unit) := runFn n E_lszRec c_lszRec [[.i .i64, .i .i64, .i .i64, .i .i64, .i .i64, .i .i64, .i .i64, .b, .sl [.i .i64, .i .i64], .sl [.i .i64], .i .i64, .i .i64, .sl [.i .i64, .i .i64], .i .i64], [.i .i64]] [.i .i64] [] [4] .no
noncomputable def g_lszRec := f_lszRec BIG
noncomputable def p_lszRec : TSp := ⟨s_lszRec, [[.i .i64, .i .i64, .i .i64, .i .i64, .i .i64, .i .i64, .i .i64, .b, .sl [.i .i64, .i .i64], .sl [.i .i64], .i .i64, .i .i64, .sl [.i .i64, .i .i64], .i .i64], [.i .i64]], [.i .i64], [], Ou.j .no, g_lszRec⟩
theorem k_lszRec : chkW PG E_lszRec 98 s_lszRec (c_lszRec.ht 18) .no = some (c_lszRec.wc E_lszRec, [4]) := by kernel_rfl
theorem ok_lszRec : p_lszRec.Ok PG 98 := mkOk (env_cons ok_lszAnswer (env_cons ok_lszOrder (env_nil PG))) k_lszRec (by kernel_rfl)
theorem e_lszRec (n : Nat) (a0 : Int × Int × Int × Int × Int × Int × Int × Bool × List (Int × Int) × List (Int) × Int × Int × List (Int × Int) × Int) (a1 : Int) : f_lszRec n (a0, a1) =
  Option.bind (g_lszAnswer ((a0.2.2.2.2.2.2.1, a0.2.2.2.2.2.2.2.1, a0.2.2.2.2.2.2.2.2.1, a0.2.2.2.2.2.2.2.2.2.1), a1)) fun r0 =>
  bif decide (r0.1 < (0 : Int)) then
   some ((-1 : Int), ())
  else Option.bind (g_lszOrder (a0.2.2.2.2.2.2.2.2.2.2, r0.1)) fun r1 =>
  bif decide (r1.1 < (0 : Int)) then
   some ((-1 : Int), ())
  else some (r1.1, ()) := by kernel_rfl
/- laws.toFile -/
def c_ltoFile : TC :=
 (.seq (.rg [o1 1 (.a (.t 0)),
   ⟨false, [], [], .det 2 (.a (.c [.s, .s, .i .i64] [.string ⟨#[]⟩, .string ⟨#[]⟩, .int .i64 (0)])), [2, 1000000001], (some 2), none⟩])
 (.seq (.rg [⟨false, [], [], .det 2 (.a (.c [.s, .s, .i .i64] [.string ⟨#[]⟩, .string ⟨#[]⟩, .int .i64 (0)])), [3, 1000000001], (some 3), none⟩])
 (.seq (.rg [o1 4 (.idx .nil),
   o1 5 (.load 1 [] 0 (.t 4) 1 false),
   o1 6 (.idx .nil),
   o4 1 [3] (.store 3 [] 0 (.t 6) (.t 5))])
 (.seq (.rg [o1 7 (.idx .nil),
   o1 8 (.load 1 [] 1 (.t 7) 1 false),
   o1 9 (.idx .nil),
   o4 1 [3] (.store 3 [] 1 (.t 9) (.t 8))])
 (.seq (.rg [o1 10 (.idx .nil),
   o1 11 (.load 1 [] 2 (.t 10) 1 false),
   o1 12 (.idx .nil),
   o4 1 [3] (.store 3 [] 2 (.t 12) (.t 11))])
 (.seq (.rg [o1 13 (.load 3 [] 0 .nil 3 false),
   o4 1 [2] (.store 2 [] 0 .nil (.t 13))])
 .ret))))))
def s_ltoFile : Sig := ⟨[.rd true [.d, .d, .d]], (.one true [.d, .d, .d])⟩
noncomputable def E_ltoFile : TEnv := envOf []
noncomputable def f_ltoFile (n : Nat) : (ByteArray × ByteArray × Int) → Option ((ByteArray × ByteArray × Int) × Unit) := runFn n E_ltoFile c_ltoFile [[.s, .s, .i .i64]] [.s, .s, .i .i64] [] [2] .no
noncomputable def g_ltoFile := f_ltoFile BIG
noncomputable def p_ltoFile : TSp := ⟨s_ltoFile, [[.s, .s, .i .i64]], [.s, .s, .i .i64], [], Ou.j .no, g_ltoFile⟩
theorem k_ltoFile : chkW PG E_ltoFile 343 s_ltoFile (c_ltoFile.ht 14) .no = some (c_ltoFile.wc E_ltoFile, [2]) := by kernel_rfl
theorem ok_ltoFile : p_ltoFile.Ok PG 343 := mkOk (env_nil PG) k_ltoFile (by kernel_rfl)
theorem e_ltoFile (n : Nat) (a0 : ByteArray × ByteArray × Int) : f_ltoFile n a0 =
  some (a0, ()) := by kernel_rfl
/- laws.toFileS -/
def c_ltoFileS : TC :=
 (.seq (.rg [o1 2 (.lit [.sl [.s, .s, .i .i64]] [.slice none 0 0])])
 (.seq (.rg [o1 5 (.copy 0),
   o1 6 (.len 5),
   o1 7 (.make (.t 6) [.s, .s, .i .i64]),
   ⟨false, [], [], .det 2 (.copy 7), [3, 7], (some 3), none⟩])
 (.seq (.join [⟨3, [.sl [.s, .s, .i .i64]], false⟩] 4194072 none (.seq (.rg [o1 4 (.lit [.i .i64] [.int .i64 (0)])])
 (.block 0 (.loop [⟨3, [.sl [.s, .s, .i .i64]], false⟩, ⟨4, [.i .i64], false⟩] 4194072
  (.seq (.seq (.rg [o1 8 (.copy 4),
    o1 9 (.copy 0),
    o1 10 (.len 9),
    o1 11 (.data (.bin .lss) [.t 8, .t 10])])
  (.cond (.t 11)
   .skip
   (.exit 0)))
  (.seq (.block 1 (.rg [⟨true, [], [], .det 1 (.copy 3), [14], (some 14), none⟩,
    o1 15 (.copy 4),
    o1 16 (.copy 0),
    o1 17 (.copy 4),
    o1 18 (.index 16 (.t 17)),
    o1 19 (.load 16 [(0, 3)] 0 (.t 18) 3 false),
    o3 20 343 [.t 19],
    o1 21 (.index 14 (.t 15)),
    o4 1 [3, 14] (.store 3 [(0, 3)] 0 (.t 21) (.t 20))]))
  (.rg [o1 12 (.copy 4),
    o1 13 (.data (.bin .add) [.t 12, .c (.int .i64 (1))]),
    o1 4 (.copy 13)])))))))
 (.seq (.rg [⟨false, [], [], .det 2 (.copy 3), [22, 3], (some 22), none⟩,
   ⟨false, [], [], .det 2 (.copy 22), [2, 22], (some 2), none⟩])
 .ret))))
def s_ltoFileS : Sig := ⟨[.rd false [.sl (.own none) [.d, .d, .d]]], (.one false [.sl (.own none) [.d, .d, .d]])⟩
noncomputable def E_ltoFileS : TEnv := envOf [(343, p_ltoFile)]
noncomputable def f_ltoFileS (n : Nat) : (List (ByteArray × ByteArray × Int)) → Option ((List (ByteArray × ByteArray × Int)) × Unit) := runFn n E_ltoFileS c_ltoFileS [[.sl [.s, .s, .i .i64]]] [.sl [.s, .s, .i .i64]] [] [2] .no
noncomputable def g_ltoFileS := f_ltoFileS BIG
noncomputable def p_ltoFileS : TSp := ⟨s_ltoFileS, [[.sl [.s, .s, .i .i64]]], [.sl [.s, .s, .i .i64]], [], Ou.j .no, g_ltoFileS⟩
theorem k_ltoFileS : chkW PG E_ltoFileS 283 s_ltoFileS (c_ltoFileS.ht 23) .no = some (c_ltoFileS.wc E_ltoFileS, [2]) := by kernel_rfl
theorem ok_ltoFileS : p_ltoFileS.Ok PG 283 := mkOk (env_cons ok_ltoFile (env_nil PG)) k_ltoFileS (by kernel_rfl)
theorem e_ltoFileS (n : Nat) (a0 : List (ByteArray × ByteArray × Int)) : f_ltoFileS n a0 =
  bif decide (0 ≤ (a0.length : Int)) then
   bif decide ((Int.toNat (a0.length : Int)) ≤ 4294967296) then
    Option.bind (loopT n (X := (List (ByteArray × ByteArray × Int)) × Int) (B := (List (ByteArray × ByteArray × Int))) (fun self1 x0 =>
      bif decide (x0.2 < (a0.length : Int)) then
       bnd a0.length x0.2 fun n2 =>
       Option.bind a0[n2]? fun y3 =>
       Option.bind (g_ltoFile y3) fun r4 =>
       bnd x0.1.length x0.2 fun n5 =>
       Option.bind x0.1[n5]? fun y6 =>
       self1 (x0.1.set n5 r4.1, IntKind.wrap .i64 (x0.2 + (1 : Int)))
      else some x0.1) (List.replicate (Int.toNat (a0.length : Int)) (ByteArray.empty, ByteArray.empty, (0 : Int)), (0 : Int)) : Option ((List (ByteArray × ByteArray × Int)))) fun x7 =>
    some (x7, ())
   else none
  else none := by kernel_rfl
/- laws.toDisk -/
def c_ltoDisk : TC :=
 (.seq (.rg [o1 1 (.a (.t 0)),
   ⟨false, [], [], .det 2 (.a (.c [.sl [.s, .s, .i .i64]] [.slice none 0 0])), [2, 1000000001], (some 2), none⟩])
 (.seq (.rg [⟨false, [], [], .det 2 (.a (.c [.sl [.s, .s, .i .i64]] [.slice none 0 0])), [3, 1000000001], (some 3), none⟩])
 (.seq (.rg [o1 4 (.idx .nil),
   o1 5 (.load 1 [] 0 (.t 4) 1 false),
   o3 6 283 [.t 5],
   o1 7 (.idx .nil),
   o4 2 [3, 6] (.store 3 [] 0 (.t 7) (.t 6))])
 (.seq (.rg [o1 8 (.load 3 [] 0 .nil 1 true),
   ⟨false, [8], [], .det 2 (.store 2 [] 0 .nil (.t 8)), [2, 8, 8, 3], none, none⟩])
 .ret))))
def s_ltoDisk : Sig := ⟨[.rd true [.sl (.own none) [.d, .d, .d]]], (.one true [.sl (.own none) [.d, .d, .d]])⟩
noncomputable def E_ltoDisk : TEnv := envOf [(283, p_ltoFileS)]
noncomputable def f_ltoDisk (n : Nat) : (List (ByteArray × ByteArray × Int)) → Option ((List (ByteArray × ByteArray × Int)) × Unit) := runFn n E_ltoDisk c_ltoDisk [[.sl [.s, .s, .i .i64]]] [.sl [.s, .s, .i .i64]] [] [2] .no
noncomputable def g_ltoDisk := f_ltoDisk BIG
noncomputable def p_ltoDisk : TSp := ⟨s_ltoDisk, [[.sl [.s, .s, .i .i64]]], [.sl [.s, .s, .i .i64]], [], Ou.j .no, g_ltoDisk⟩
theorem k_ltoDisk : chkW PG E_ltoDisk 144 s_ltoDisk (c_ltoDisk.ht 9) .no = some (c_ltoDisk.wc E_ltoDisk, [2]) := by kernel_rfl
theorem ok_ltoDisk : p_ltoDisk.Ok PG 144 := mkOk (env_cons ok_ltoFileS (env_nil PG)) k_ltoDisk (by kernel_rfl)
theorem e_ltoDisk (n : Nat) (a0 : List (ByteArray × ByteArray × Int)) : f_ltoDisk n a0 =
  Option.bind (g_ltoFileS a0) fun r0 =>
  some (r0.1, ()) := by kernel_rfl
/- laws.toAsk -/
def c_ltoAsk : TC :=
 (.seq (.rg [o1 1 (.a (.t 0)),
   ⟨false, [], [], .det 2 (.a (.c [.i .i64, .i .i64, .i .i64, .i .i64] [.int .i64 (0), .int .i64 (0), .int .i64 (0), .int .i64 (0)])), [2, 1000000001], (some 2), none⟩])
 (.seq (.rg [⟨false, [], [], .det 2 (.a (.c [.i .i64, .i .i64, .i .i64, .i .i64] [.int .i64 (0), .int .i64 (0), .int .i64 (0), .int .i64 (0)])), [3, 1000000001], (some 3), none⟩])
 (.seq (.rg [o1 4 (.idx .nil),
   o1 5 (.load 1 [] 0 (.t 4) 1 false),
   o1 6 (.idx .nil),
   o4 1 [3] (.store 3 [] 0 (.t 6) (.t 5))])
 (.seq (.rg [o1 7 (.idx .nil),
   o1 8 (.load 1 [] 1 (.t 7) 1 false),
   o1 9 (.idx .nil),
   o4 1 [3] (.store 3 [] 1 (.t 9) (.t 8))])
 (.seq (.rg [o1 10 (.idx .nil),
   o1 11 (.load 1 [] 2 (.t 10) 1 false),
   o1 12 (.idx .nil),
   o4 1 [3] (.store 3 [] 2 (.t 12) (.t 11))])
 (.seq (.rg [o1 13 (.idx .nil),
   o1 14 (.load 1 [] 3 (.t 13) 1 false),
   o1 15 (.idx .nil),
   o4 1 [3] (.store 3 [] 3 (.t 15) (.t 14))])
 (.seq (.rg [o1 16 (.load 3 [] 0 .nil 4 false),
   o4 1 [2] (.store 2 [] 0 .nil (.t 16))])
 .ret)))))))
def s_ltoAsk : Sig := ⟨[.rd true [.d, .d, .d, .d]], (.one true [.d, .d, .d, .d])⟩
noncomputable def E_ltoAsk : TEnv := envOf []
noncomputable def f_ltoAsk (n : Nat) : (Int × Int × Int × Int) → Option ((Int × Int × Int × Int) × Unit) := runFn n E_ltoAsk c_ltoAsk [[.i .i64, .i .i64, .i .i64, .i .i64]] [.i .i64, .i .i64, .i .i64, .i .i64] [] [2] .no
noncomputable def g_ltoAsk := f_ltoAsk BIG
noncomputable def p_ltoAsk : TSp := ⟨s_ltoAsk, [[.i .i64, .i .i64, .i .i64, .i .i64]], [.i .i64, .i .i64, .i .i64, .i .i64], [], Ou.j .no, g_ltoAsk⟩
theorem k_ltoAsk : chkW PG E_ltoAsk 91 s_ltoAsk (c_ltoAsk.ht 17) .no = some (c_ltoAsk.wc E_ltoAsk, [2]) := by kernel_rfl
theorem ok_ltoAsk : p_ltoAsk.Ok PG 91 := mkOk (env_nil PG) k_ltoAsk (by kernel_rfl)
theorem e_ltoAsk (n : Nat) (a0 : Int × Int × Int × Int) : f_ltoAsk n a0 =
  some (a0, ()) := by kernel_rfl
/- laws.toEdge -/
def c_ltoEdge : TC :=
 (.seq (.rg [o1 1 (.a (.t 0)),
   ⟨false, [], [], .det 2 (.a (.c [.i .i64, .i .i64] [.int .i64 (0), .int .i64 (0)])), [2, 1000000001], (some 2), none⟩])
 (.seq (.rg [⟨false, [], [], .det 2 (.a (.c [.i .i64, .i .i64] [.int .i64 (0), .int .i64 (0)])), [3, 1000000001], (some 3), none⟩])
 (.seq (.rg [o1 4 (.idx .nil),
   o1 5 (.load 1 [] 0 (.t 4) 1 false),
   o1 6 (.idx .nil),
   o4 1 [3] (.store 3 [] 0 (.t 6) (.t 5))])
 (.seq (.rg [o1 7 (.idx .nil),
   o1 8 (.load 1 [] 1 (.t 7) 1 false),
   o1 9 (.idx .nil),
   o4 1 [3] (.store 3 [] 1 (.t 9) (.t 8))])
 (.seq (.rg [o1 10 (.load 3 [] 0 .nil 2 false),
   o4 1 [2] (.store 2 [] 0 .nil (.t 10))])
 .ret)))))
def s_ltoEdge : Sig := ⟨[.rd true [.d, .d]], (.one true [.d, .d])⟩
noncomputable def E_ltoEdge : TEnv := envOf []
noncomputable def f_ltoEdge (n : Nat) : (Int × Int) → Option ((Int × Int) × Unit) := runFn n E_ltoEdge c_ltoEdge [[.i .i64, .i .i64]] [.i .i64, .i .i64] [] [2] .no
noncomputable def g_ltoEdge := f_ltoEdge BIG
noncomputable def p_ltoEdge : TSp := ⟨s_ltoEdge, [[.i .i64, .i .i64]], [.i .i64, .i .i64], [], Ou.j .no, g_ltoEdge⟩
theorem k_ltoEdge : chkW PG E_ltoEdge 170 s_ltoEdge (c_ltoEdge.ht 11) .no = some (c_ltoEdge.wc E_ltoEdge, [2]) := by kernel_rfl
theorem ok_ltoEdge : p_ltoEdge.Ok PG 170 := mkOk (env_nil PG) k_ltoEdge (by kernel_rfl)
theorem e_ltoEdge (n : Nat) (a0 : Int × Int) : f_ltoEdge n a0 =
  some (a0, ()) := by kernel_rfl
/- laws.toEdgeS -/
def c_ltoEdgeS : TC :=
 (.seq (.rg [o1 2 (.lit [.sl [.i .i64, .i .i64]] [.slice none 0 0])])
 (.seq (.rg [o1 5 (.copy 0),
   o1 6 (.len 5),
   o1 7 (.make (.t 6) [.i .i64, .i .i64]),
   ⟨false, [], [], .det 2 (.copy 7), [3, 7], (some 3), none⟩])
 (.seq (.join [⟨3, [.sl [.i .i64, .i .i64]], false⟩] 4194072 none (.seq (.rg [o1 4 (.lit [.i .i64] [.int .i64 (0)])])
 (.block 0 (.loop [⟨3, [.sl [.i .i64, .i .i64]], false⟩, ⟨4, [.i .i64], false⟩] 4194072
  (.seq (.seq (.rg [o1 8 (.copy 4),
    o1 9 (.copy 0),
    o1 10 (.len 9),
    o1 11 (.data (.bin .lss) [.t 8, .t 10])])
  (.cond (.t 11)
   .skip
   (.exit 0)))
  (.seq (.block 1 (.rg [⟨true, [], [], .det 1 (.copy 3), [14], (some 14), none⟩,
    o1 15 (.copy 4),
    o1 16 (.copy 0),
    o1 17 (.copy 4),
    o1 18 (.index 16 (.t 17)),
    o1 19 (.load 16 [(0, 2)] 0 (.t 18) 2 false),
    o3 20 170 [.t 19],
    o1 21 (.index 14 (.t 15)),
    o4 1 [3, 14] (.store 3 [(0, 2)] 0 (.t 21) (.t 20))]))
  (.rg [o1 12 (.copy 4),
    o1 13 (.data (.bin .add) [.t 12, .c (.int .i64 (1))]),
    o1 4 (.copy 13)])))))))
 (.seq (.rg [⟨false, [], [], .det 2 (.copy 3), [22, 3], (some 22), none⟩,
   ⟨false, [], [], .det 2 (.copy 22), [2, 22], (some 2), none⟩])
 .ret))))
def s_ltoEdgeS : Sig := ⟨[.rd false [.sl (.own none) [.d, .d]]], (.one false [.sl (.own none) [.d, .d]])⟩
noncomputable def E_ltoEdgeS : TEnv := envOf [(170, p_ltoEdge)]
noncomputable def f_ltoEdgeS (n : Nat) : (List (Int × Int)) → Option ((List (Int × Int)) × Unit) := runFn n E_ltoEdgeS c_ltoEdgeS [[.sl [.i .i64, .i .i64]]] [.sl [.i .i64, .i .i64]] [] [2] .no
noncomputable def g_ltoEdgeS := f_ltoEdgeS BIG
noncomputable def p_ltoEdgeS : TSp := ⟨s_ltoEdgeS, [[.sl [.i .i64, .i .i64]]], [.sl [.i .i64, .i .i64]], [], Ou.j .no, g_ltoEdgeS⟩
theorem k_ltoEdgeS : chkW PG E_ltoEdgeS 37 s_ltoEdgeS (c_ltoEdgeS.ht 23) .no = some (c_ltoEdgeS.wc E_ltoEdgeS, [2]) := by kernel_rfl
theorem ok_ltoEdgeS : p_ltoEdgeS.Ok PG 37 := mkOk (env_cons ok_ltoEdge (env_nil PG)) k_ltoEdgeS (by kernel_rfl)
theorem e_ltoEdgeS (n : Nat) (a0 : List (Int × Int)) : f_ltoEdgeS n a0 =
  bif decide (0 ≤ (a0.length : Int)) then
   bif decide ((Int.toNat (a0.length : Int)) ≤ 4294967296) then
    Option.bind (loopT n (X := (List (Int × Int)) × Int) (B := (List (Int × Int))) (fun self1 x0 =>
      bif decide (x0.2 < (a0.length : Int)) then
       bnd a0.length x0.2 fun n2 =>
       Option.bind a0[n2]? fun y3 =>
       Option.bind (g_ltoEdge y3) fun r4 =>
       bnd x0.1.length x0.2 fun n5 =>
       Option.bind x0.1[n5]? fun y6 =>
       self1 (x0.1.set n5 r4.1, IntKind.wrap .i64 (x0.2 + (1 : Int)))
      else some x0.1) (List.replicate (Int.toNat (a0.length : Int)) ((0 : Int), (0 : Int)), (0 : Int)) : Option ((List (Int × Int)))) fun x7 =>
    some (x7, ())
   else none
  else none := by kernel_rfl
/- laws.toIntS -/
def c_ltoIntS : TC :=
 (.seq (.rg [o1 2 (.lit [.sl [.i .i64]] [.slice none 0 0])])
 (.seq (.rg [o1 5 (.copy 0),
   o1 6 (.len 5),
   o1 7 (.make (.t 6) [.i .i64]),
   ⟨false, [], [], .det 2 (.copy 7), [3, 7], (some 3), none⟩])
 (.seq (.join [⟨3, [.sl [.i .i64]], false⟩] 2096920 none (.seq (.rg [o1 4 (.lit [.i .i64] [.int .i64 (0)])])
 (.block 0 (.loop [⟨3, [.sl [.i .i64]], false⟩, ⟨4, [.i .i64], false⟩] 2096920
  (.seq (.seq (.rg [o1 8 (.copy 4),
    o1 9 (.copy 0),
    o1 10 (.len 9),
    o1 11 (.data (.bin .lss) [.t 8, .t 10])])
  (.cond (.t 11)
   .skip
   (.exit 0)))
  (.seq (.block 1 (.rg [⟨true, [], [], .det 1 (.copy 3), [14], (some 14), none⟩,
    o1 15 (.copy 4),
    o1 16 (.copy 0),
    o1 17 (.copy 4),
    o1 18 (.index 16 (.t 17)),
    o1 19 (.load 16 [(0, 1)] 0 (.t 18) 1 false),
    o1 20 (.index 14 (.t 15)),
    o4 1 [3, 14] (.store 3 [(0, 1)] 0 (.t 20) (.t 19))]))
  (.rg [o1 12 (.copy 4),
    o1 13 (.data (.bin .add) [.t 12, .c (.int .i64 (1))]),
    o1 4 (.copy 13)])))))))
 (.seq (.rg [⟨false, [], [], .det 2 (.copy 3), [21, 3], (some 21), none⟩,
   ⟨false, [], [], .det 2 (.copy 21), [2, 21], (some 2), none⟩])
 .ret))))
def s_ltoIntS : Sig := ⟨[.rd false [.sl (.own none) [.d]]], (.one false [.sl (.own none) [.d]])⟩
noncomputable def E_ltoIntS : TEnv := envOf []
noncomputable def f_ltoIntS (n : Nat) : List (Int) → Option ((List (Int)) × Unit) := runFn n E_ltoIntS c_ltoIntS [[.sl [.i .i64]]] [.sl [.i .i64]] [] [2] .no
noncomputable def g_ltoIntS := f_ltoIntS BIG
noncomputable def p_ltoIntS : TSp := ⟨s_ltoIntS, [[.sl [.i .i64]]], [.sl [.i .i64]], [], Ou.j .no, g_ltoIntS⟩
theorem k_ltoIntS : chkW PG E_ltoIntS 169 s_ltoIntS (c_ltoIntS.ht 22) .no = some (c_ltoIntS.wc E_ltoIntS, [2]) := by kernel_rfl
theorem ok_ltoIntS : p_ltoIntS.Ok PG 169 := mkOk (env_nil PG) k_ltoIntS (by kernel_rfl)
theorem e_ltoIntS (n : Nat) (a0 : List (Int)) : f_ltoIntS n a0 =
  bif decide (0 ≤ (a0.length : Int)) then
   bif decide ((Int.toNat (a0.length : Int)) ≤ 4294967296) then
    Option.bind (loopT n (X := (List (Int)) × Int) (B := (List (Int))) (fun self1 x0 =>
      bif decide (x0.2 < (a0.length : Int)) then
       bnd a0.length x0.2 fun n2 =>
       Option.bind a0[n2]? fun y3 =>
       bnd x0.1.length x0.2 fun n4 =>
       Option.bind x0.1[n4]? fun y5 =>
       self1 (x0.1.set n4 y3, IntKind.wrap .i64 (x0.2 + (1 : Int)))
      else some x0.1) (List.replicate (Int.toNat (a0.length : Int)) (0 : Int), (0 : Int)) : Option ((List (Int)))) fun x6 =>
    some (x6, ())
   else none
  else none := by kernel_rfl
/- laws.toAnswer -/
def c_ltoAnswer : TC :=
 (.seq (.rg [o1 1 (.a (.t 0)),
   ⟨false, [], [], .det 2 (.a (.c [.i .i64, .b, .sl [.i .i64, .i .i64], .sl [.i .i64]] [.int .i64 (0), .bool false, .slice none 0 0, .slice none 0 0])), [2, 1000000001], (some 2), none⟩])
 (.seq (.rg [⟨false, [], [], .det 2 (.a (.c [.i .i64, .b, .sl [.i .i64, .i .i64], .sl [.i .i64]] [.int .i64 (0), .bool false, .slice none 0 0, .slice none 0 0])), [3, 1000000001], (some 3), none⟩])
 (.seq (.rg [o1 4 (.idx .nil),
   o1 5 (.load 1 [] 0 (.t 4) 1 false),
   o1 6 (.idx .nil),
   o4 1 [3] (.store 3 [] 0 (.t 6) (.t 5))])
 (.seq (.rg [o1 7 (.idx .nil),
   o1 8 (.load 1 [] 1 (.t 7) 1 false),
   o1 9 (.idx .nil),
   o4 1 [3] (.store 3 [] 1 (.t 9) (.t 8))])
 (.seq (.rg [o1 10 (.idx .nil),
   o1 11 (.load 1 [] 2 (.t 10) 1 false),
   o3 12 37 [.t 11],
   o1 13 (.idx .nil),
   o4 2 [3, 12] (.store 3 [] 2 (.t 13) (.t 12))])
 (.seq (.rg [o1 14 (.idx .nil),
   o1 15 (.load 1 [] 3 (.t 14) 1 false),
   o3 16 169 [.t 15],
   o1 17 (.idx .nil),
   o4 2 [3, 16] (.store 3 [] 3 (.t 17) (.t 16))])
 (.seq (.rg [o1 18 (.load 3 [] 0 .nil 4 true),
   ⟨false, [18], [], .det 2 (.store 2 [] 0 .nil (.t 18)), [2, 18, 18, 3], none, none⟩])
 .ret)))))))
def s_ltoAnswer : Sig := ⟨[.rd true [.d, .d, .sl (.own none) [.d, .d], .sl (.own none) [.d]]], (.one true [.d, .d, .sl (.own none) [.d, .d], .sl (.own none) [.d]])⟩
noncomputable def E_ltoAnswer : TEnv := envOf [(37, p_ltoEdgeS), (169, p_ltoIntS)]
noncomputable def f_ltoAnswer (n : Nat) : (Int × Bool × List (Int × Int) × List (Int)) → Option ((Int × Bool × List (Int × Int) × List (Int)) × Unit) := runFn n E_ltoAnswer c_ltoAnswer [[.i .i64, .b, .sl [.i .i64, .i .i64], .sl [.i .i64]]] [.i .i64, .b, .sl [.i .i64, .i .i64], .sl [.i .i64]] [] [2] .no
noncomputable def g_ltoAnswer := f_ltoAnswer BIG
noncomputable def p_ltoAnswer : TSp := ⟨s_ltoAnswer, [[.i .i64, .b, .sl [.i .i64, .i .i64], .sl [.i .i64]]], [.i .i64, .b, .sl [.i .i64, .i .i64], .sl [.i .i64]], [], Ou.j .no, g_ltoAnswer⟩
theorem k_ltoAnswer : chkW PG E_ltoAnswer 196 s_ltoAnswer (c_ltoAnswer.ht 19) .no = some (c_ltoAnswer.wc E_ltoAnswer, [2]) := by kernel_rfl
theorem ok_ltoAnswer : p_ltoAnswer.Ok PG 196 := mkOk (env_cons ok_ltoEdgeS (env_cons ok_ltoIntS (env_nil PG))) k_ltoAnswer (by kernel_rfl)
theorem e_ltoAnswer (n : Nat) (a0 : Int × Bool × List (Int × Int) × List (Int)) : f_ltoAnswer n a0 =
  Option.bind (g_ltoEdgeS a0.2.2.1) fun r0 =>
  Option.bind (g_ltoIntS a0.2.2.2) fun r1 =>
  some ((a0.1, a0.2.1, r0.1, r1.1), ()) := by kernel_rfl
/- laws.toOrder -/
def c_ltoOrder : TC :=
 (.seq (.rg [o1 1 (.a (.t 0)),
   ⟨false, [], [], .det 2 (.a (.c [.i .i64, .i .i64, .sl [.i .i64, .i .i64], .i .i64] [.int .i64 (0), .int .i64 (0), .slice none 0 0, .int .i64 (0)])), [2, 1000000001], (some 2), none⟩])
 (.seq (.rg [⟨false, [], [], .det 2 (.a (.c [.i .i64, .i .i64, .sl [.i .i64, .i .i64], .i .i64] [.int .i64 (0), .int .i64 (0), .slice none 0 0, .int .i64 (0)])), [3, 1000000001], (some 3), none⟩])
 (.seq (.rg [o1 4 (.idx .nil),
   o1 5 (.load 1 [] 0 (.t 4) 1 false),
   o1 6 (.idx .nil),
   o4 1 [3] (.store 3 [] 0 (.t 6) (.t 5))])
 (.seq (.rg [o1 7 (.idx .nil),
   o1 8 (.load 1 [] 1 (.t 7) 1 false),
   o1 9 (.idx .nil),
   o4 1 [3] (.store 3 [] 1 (.t 9) (.t 8))])
 (.seq (.rg [o1 10 (.idx .nil),
   o1 11 (.load 1 [] 2 (.t 10) 1 false),
   o3 12 37 [.t 11],
   o1 13 (.idx .nil),
   o4 2 [3, 12] (.store 3 [] 2 (.t 13) (.t 12))])
 (.seq (.rg [o1 14 (.idx .nil),
   o1 15 (.load 1 [] 3 (.t 14) 1 false),
   o1 16 (.idx .nil),
   o4 1 [3] (.store 3 [] 3 (.t 16) (.t 15))])
 (.seq (.rg [o1 17 (.load 3 [] 0 .nil 4 true),
   ⟨false, [17], [], .det 2 (.store 2 [] 0 .nil (.t 17)), [2, 17, 17, 3], none, none⟩])
 .ret)))))))
def s_ltoOrder : Sig := ⟨[.rd true [.d, .d, .sl (.own none) [.d, .d], .d]], (.one true [.d, .d, .sl (.own none) [.d, .d], .d])⟩
noncomputable def E_ltoOrder : TEnv := envOf [(37, p_ltoEdgeS)]
noncomputable def f_ltoOrder (n : Nat) : (Int × Int × List (Int × Int) × Int) → Option ((Int × Int × List (Int × Int) × Int) × Unit) := runFn n E_ltoOrder c_ltoOrder [[.i .i64, .i .i64, .sl [.i .i64, .i .i64], .i .i64]] [.i .i64, .i .i64, .sl [.i .i64, .i .i64], .i .i64] [] [2] .no
noncomputable def g_ltoOrder := f_ltoOrder BIG
noncomputable def p_ltoOrder : TSp := ⟨s_ltoOrder, [[.i .i64, .i .i64, .sl [.i .i64, .i .i64], .i .i64]], [.i .i64, .i .i64, .sl [.i .i64, .i .i64], .i .i64], [], Ou.j .no, g_ltoOrder⟩
theorem k_ltoOrder : chkW PG E_ltoOrder 234 s_ltoOrder (c_ltoOrder.ht 18) .no = some (c_ltoOrder.wc E_ltoOrder, [2]) := by kernel_rfl
theorem ok_ltoOrder : p_ltoOrder.Ok PG 234 := mkOk (env_cons ok_ltoEdgeS (env_nil PG)) k_ltoOrder (by kernel_rfl)
theorem e_ltoOrder (n : Nat) (a0 : Int × Int × List (Int × Int) × Int) : f_ltoOrder n a0 =
  Option.bind (g_ltoEdgeS a0.2.2.1) fun r0 =>
  some ((a0.1, a0.2.1, r0.1, a0.2.2.2), ()) := by kernel_rfl
/- laws.toRec -/
def c_ltoRec : TC :=
 (.seq (.rg [o1 1 (.a (.t 0)),
   ⟨false, [], [], .det 2 (.a (.c [.i .i64, .i .i64, .i .i64, .i .i64, .i .i64, .i .i64, .i .i64, .b, .sl [.i .i64, .i .i64], .sl [.i .i64], .i .i64, .i .i64, .sl [.i .i64, .i .i64], .i .i64] [.int .i64 (0), .int .i64 (0), .int .i64 (0), .int .i64 (0), .int .i64 (0), .int .i64 (0), .int .i64 (0), .bool false, .slice none 0 0, .slice none 0 0, .int .i64 (0), .int .i64 (0), .slice none 0 0, .int .i64 (0)])), [2, 1000000001], (some 2), none⟩])
 (.seq (.rg [⟨false, [], [], .det 2 (.a (.c [.i .i64, .i .i64, .i .i64, .i .i64, .i .i64, .i .i64, .i .i64, .b, .sl [.i .i64, .i .i64], .sl [.i .i64], .i .i64, .i .i64, .sl [.i .i64, .i .i64], .i .i64] [.int .i64 (0), .int .i64 (0), .int .i64 (0), .int .i64 (0), .int .i64 (0), .int .i64 (0), .int .i64 (0), .bool false, .slice none 0 0, .slice none 0 0, .int .i64 (0), .int .i64 (0), .slice none 0 0, .int .i64 (0)])), [3, 1000000001], (some 3), none⟩])
 (.seq (.rg [o1 4 (.idx .nil),
   o1 5 (.load 1 [] 0 (.t 4) 1 false),
   o1 6 (.idx .nil),
   o4 1 [3] (.store 3 [] 0 (.t 6) (.t 5))])
 (.seq (.rg [o1 7 (.idx .nil),
   o1 8 (.load 1 [] 1 (.t 7) 4 false),
   o3 9 91 [.t 8],
   o1 10 (.idx .nil),
   o4 1 [3] (.store 3 [] 1 (.t 10) (.t 9))])
 (.seq (.rg [o1 11 (.idx .nil),
   o1 12 (.load 1 [] 5 (.t 11) 1 false),
   o1 13 (.idx .nil),
   o4 1 [3] (.store 3 [] 5 (.t 13) (.t 12))])
 (.seq (.rg [o1 14 (.idx .nil),
   o1 15 (.load 1 [] 6 (.t 14) 4 false),
   o3 16 196 [.t 15],
   o1 17 (.idx .nil),
   o4 2 [3, 16] (.store 3 [] 6 (.t 17) (.t 16))])
 (.seq (.rg [o1 18 (.idx .nil),
   o1 19 (.load 1 [] 10 (.t 18) 4 false),
   o3 20 234 [.t 19],
   o1 21 (.idx .nil),
   o4 2 [3, 20] (.store 3 [] 10 (.t 21) (.t 20))])
 (.seq (.rg [o1 22 (.load 3 [] 0 .nil 14 true),
   ⟨false, [22], [], .det 2 (.store 2 [] 0 .nil (.t 22)), [2, 22, 22, 3], none, none⟩])
 .ret))))))))
def s_ltoRec : Sig := ⟨[.rd true [.d, .d, .d, .d, .d, .d, .d, .d, .sl (.own none) [.d, .d], .sl (.own none) [.d], .d, .d, .sl (.own none) [.d, .d], .d]], (.one true [.d, .d, .d, .d, .d, .d, .d, .d, .sl (.own none) [.d, .d], .sl (.own none) [.d], .d, .d, .sl (.own none) [.d, .d], .d])⟩
noncomputable def E_ltoRec : TEnv := envOf [(91, p_ltoAsk), (196, p_ltoAnswer), (234, p_ltoOrder)]
noncomputable def f_ltoRec (n : Nat) : (Int × Int × Int × Int × Int × Int × Int × Bool × List (Int × Int) × List (Int) × Int × Int × List (Int × Int) × Int) → Option ((Int × Int × Int × Int × Int × Int × Int × Bool × List (Int × Int) × List (Int) × Int × Int × List (Int × Int) × Int) × Unit) := runFn n E_ltoRec c_ltoRec [[.i .i64, .i .i64, .i .i64, .i .i64, .i .i64, .i .i64, .i .i64, .b, .sl [.i .i64, .i .i64], .sl [.i .i64], .i .i64, .i .i64, .sl [.i .i64, .i .i64], .i .i64]] [.i .i64, .i .i64, .i .i64, .i .i64, .i .i64, .i .i64, .i .i64, .b, .sl [.i .i64, .i .i64], .sl [.i .i64], .i .i64, .i .i64, .sl [.i .i64, .i .i64], .i .i64] [] [2] .no
noncomputable def g_ltoRec := f_ltoRec BIG
noncomputable def p_ltoRec : TSp := ⟨s_ltoRec, [[.i .i64, .i .i64, .i .i64, .i .i64, .i .i64, .i .i64, .i .i64, .b, .sl [.i .i64, .i .i64], .sl [.i .i64], .i .i64, .i .i64, .sl [.i .i64, .i .i64], .i .i64]], [.i .i64, .i .i64, .i .i64, .i .i64, .i .i64, .i .i64, .i .i64, .b, .sl [.i .i64, .i .i64], .sl [.i .i64], .i .i64, .i .i64, .sl [.i .i64, .i .i64], .i .i64], [], Ou.j .no, g_ltoRec⟩
theorem k_ltoRec : chkW PG E_ltoRec 100 s_ltoRec (c_ltoRec.ht 23) .no = some (c_ltoRec.wc E_ltoRec, [2]) := by kernel_rfl
theorem ok_ltoRec : p_ltoRec.Ok PG 100 := mkOk (env_cons ok_ltoAsk (env_cons ok_ltoAnswer (env_cons ok_ltoOrder (env_nil PG)))) k_ltoRec (by kernel_rfl)
theorem e_ltoRec (n : Nat) (a0 : Int × Int × Int × Int × Int × Int × Int × Bool × List (Int × Int) × List (Int) × Int × Int × List (Int × Int) × Int) : f_ltoRec n a0 =
  Option.bind (g_ltoAsk (a0.2.1, a0.2.2.1, a0.2.2.2.1, a0.2.2.2.2.1)) fun r0 =>
  Option.bind (g_ltoAnswer (a0.2.2.2.2.2.2.1, a0.2.2.2.2.2.2.2.1, a0.2.2.2.2.2.2.2.2.1, a0.2.2.2.2.2.2.2.2.2.1)) fun r1 =>
  Option.bind (g_ltoOrder a0.2.2.2.2.2.2.2.2.2.2) fun r2 =>
  some ((a0.1, r0.1.1, r0.1.2.1, r0.1.2.2.1, r0.1.2.2.2, a0.2.2.2.2.2.1, r1.1.1, r1.1.2.1, r1.1.2.2.1, r1.1.2.2.2, r2.1), ()) := by kernel_rfl
/- spec.l05SameEdges -/
def c_sl05SameEdges : TC :=
 (.seq (.rg [o1 4 (.lit [.b] [.bool false])])
 (.seq (.seq (.rg [o1 6 (.copy 0),
   o1 7 (.len 6),
   o1 8 (.copy 1),
   o1 9 (.len 8),
   o1 10 (.data (.bin .neq) [.t 7, .t 9])])
 (.cond (.t 10)
  (.seq (.rg [o1 4 (.lit [.b] [.bool false])])
  .ret)
  .skip))
 (.seq (.join [] 67106864 (some [⟨4, [.b], false⟩]) (.seq (.rg [o1 5 (.lit [.i .i64] [.int .i64 (0)])])
 (.block 0 (.loop [⟨5, [.i .i64], false⟩] 67106864
  (.seq (.seq (.rg [o1 11 (.copy 5),
    o1 12 (.copy 0),
    o1 13 (.len 12),
    o1 14 (.data (.bin .lss) [.t 11, .t 13])])
  (.cond (.t 14)
   .skip
   (.exit 0)))
  (.seq (.block 1 (.seq (.rg [o1 17 (.copy 0),
    o1 18 (.copy 5),
    o1 19 (.index 17 (.t 18)),
    o1 20 (.load 17 [(0, 2)] 0 (.t 19) 2 false),
    o1 21 (.copy 1),
    o1 22 (.copy 5),
    o1 23 (.index 21 (.t 22)),
    o1 24 (.load 21 [(0, 2)] 0 (.t 23) 2 false),
    o1 25 (.eqA [.i, .i] (.t 20) (.t 24) true)])
  (.cond (.t 25)
   (.seq (.rg [o1 4 (.lit [.b] [.bool false])])
   .ret)
   .skip)))
  (.rg [o1 15 (.copy 5),
    o1 16 (.data (.bin .add) [.t 15, .c (.int .i64 (1))]),
    o1 5 (.copy 16)])))))))
 (.seq (.rg [o1 4 (.lit [.b] [.bool true])])
 .ret))))
def s_sl05SameEdges : Sig := ⟨[.rd false [.sl (.own none) [.d, .d]], .rd false [.sl (.own none) [.d, .d]]], (.one false [.d])⟩
noncomputable def E_sl05SameEdges : TEnv := envOf []
noncomputable def f_sl05SameEdges (n : Nat) : (List (Int × Int)) × (List (Int × Int)) → Option ((Bool) × Unit) := runFn n E_sl05SameEdges c_sl05SameEdges [[.sl [.i .i64, .i .i64]], [.sl [.i .i64, .i .i64]]] [.b] [] [4] .no
noncomputable def g_sl05SameEdges := f_sl05SameEdges BIG
noncomputable def p_sl05SameEdges : TSp := ⟨s_sl05SameEdges, [[.sl [.i .i64, .i .i64]], [.sl [.i .i64, .i .i64]]], [.b], [], Ou.j .no, g_sl05SameEdges⟩
theorem k_sl05SameEdges : chkW PG E_sl05SameEdges 349 s_sl05SameEdges (c_sl05SameEdges.ht 26) .no = some (c_sl05SameEdges.wc E_sl05SameEdges, [4]) := by kernel_rfl
theorem ok_sl05SameEdges : p_sl05SameEdges.Ok PG 349 := mkOk (env_nil PG) k_sl05SameEdges (by kernel_rfl)
theorem e_sl05SameEdges (n : Nat) (a0 : List (Int × Int)) (a1 : List (Int × Int)) : f_sl05SameEdges n (a0, a1) =
  bif !decide ((a0.length : Int) = (a1.length : Int)) then
   some (false, ())
  else Option.bind (loopT n (X := Int) (B := (Unit) ⊕ (Bool)) (fun self1 x0 =>
    bif decide (x0 < (a0.length : Int)) then
     bnd a0.length x0 fun n2 =>
     Option.bind a0[n2]? fun y3 =>
     bnd a1.length x0 fun n4 =>
     Option.bind a1[n4]? fun y5 =>
     bif !(decide (y3.1 = y5.1) && (decide (y3.2 = y5.2) && true)) then
      some (Sum.inr false)
     else self1 (IntKind.wrap .i64 (x0 + (1 : Int)))
    else some (Sum.inl ())) (0 : Int) : Option ((Unit) ⊕ (Bool))) fun y => match y with
  | .inl x6 =>
   some (true, ())
  | .inr x6 =>
   some (x6, ()) := by kernel_rfl
/- spec.l05SameInts -/
def c_sl05SameInts : TC :=
 (.seq (.rg [o1 4 (.lit [.b] [.bool false])])
 (.seq (.seq (.rg [o1 6 (.copy 0),
   o1 7 (.len 6),
   o1 8 (.copy 1),
   o1 9 (.len 8),
   o1 10 (.data (.bin .neq) [.t 7, .t 9])])
 (.cond (.t 10)
  (.seq (.rg [o1 4 (.lit [.b] [.bool false])])
  .ret)
  .skip))
 (.seq (.join [] 67106864 (some [⟨4, [.b], false⟩]) (.seq (.rg [o1 5 (.lit [.i .i64] [.int .i64 (0)])])
 (.block 0 (.loop [⟨5, [.i .i64], false⟩] 67106864
  (.seq (.seq (.rg [o1 11 (.copy 5),
    o1 12 (.copy 0),
    o1 13 (.len 12),
    o1 14 (.data (.bin .lss) [.t 11, .t 13])])
  (.cond (.t 14)
   .skip
   (.exit 0)))
  (.seq (.block 1 (.seq (.rg [o1 17 (.copy 0),
    o1 18 (.copy 5),
    o1 19 (.index 17 (.t 18)),
    o1 20 (.load 17 [(0, 1)] 0 (.t 19) 1 false),
    o1 21 (.copy 1),
    o1 22 (.copy 5),
    o1 23 (.index 21 (.t 22)),
    o1 24 (.load 21 [(0, 1)] 0 (.t 23) 1 false),
    o1 25 (.data (.bin .neq) [.t 20, .t 24])])
  (.cond (.t 25)
   (.seq (.rg [o1 4 (.lit [.b] [.bool false])])
   .ret)
   .skip)))
  (.rg [o1 15 (.copy 5),
    o1 16 (.data (.bin .add) [.t 15, .c (.int .i64 (1))]),
    o1 5 (.copy 16)])))))))
 (.seq (.rg [o1 4 (.lit [.b] [.bool true])])
 .ret))))
def s_sl05SameInts : Sig := ⟨[.rd false [.sl (.own none) [.d]], .rd false [.sl (.own none) [.d]]], (.one false [.d])⟩
noncomputable def E_sl05SameInts : TEnv := envOf []
noncomputable def f_sl05SameInts (n : Nat) : List (Int) × List (Int) → Option ((Bool) × Unit) := runFn n E_sl05SameInts c_sl05SameInts [[.sl [.i .i64]], [.sl [.i .i64]]] [.b] [] [4] .no
noncomputable def g_sl05SameInts := f_sl05SameInts BIG
noncomputable def p_sl05SameInts : TSp := ⟨s_sl05SameInts, [[.sl [.i .i64]], [.sl [.i .i64]]], [.b], [], Ou.j .no, g_sl05SameInts⟩
theorem k_sl05SameInts : chkW PG E_sl05SameInts 262 s_sl05SameInts (c_sl05SameInts.ht 26) .no = some (c_sl05SameInts.wc E_sl05SameInts, [4]) := by kernel_rfl
theorem ok_sl05SameInts : p_sl05SameInts.Ok PG 262 := mkOk (env_nil PG) k_sl05SameInts (by kernel_rfl)
theorem e_sl05SameInts (n : Nat) (a0 : List (Int)) (a1 : List (Int)) : f_sl05SameInts n (a0, a1) =
  bif !decide ((a0.length : Int) = (a1.length : Int)) then
   some (false, ())
  else Option.bind (loopT n (X := Int) (B := (Unit) ⊕ (Bool)) (fun self1 x0 =>
    bif decide (x0 < (a0.length : Int)) then
     bnd a0.length x0 fun n2 =>
     Option.bind a0[n2]? fun y3 =>
     bnd a1.length x0 fun n4 =>
     Option.bind a1[n4]? fun y5 =>
     bif !decide (y3 = y5) then
      some (Sum.inr false)
     else self1 (IntKind.wrap .i64 (x0 + (1 : Int)))
    else some (Sum.inl ())) (0 : Int) : Option ((Unit) ⊕ (Bool))) fun y => match y with
  | .inl x6 =>
   some (true, ())
  | .inr x6 =>
   some (x6, ()) := by kernel_rfl
/- spec.l09SameAnswer -/
def c_sl09SameAnswer : TC :=
 (.seq (.rg [o1 2 (.a (.t 0)),
   o1 3 (.a (.t 1)),
   o1 4 (.lit [.b] [.bool false])])
 (.seq (.join [⟨4, [.b], false⟩] 2147483632 none (.rg [o1 5 (.idx .nil),
   o1 6 (.load 2 [] 0 (.t 5) 1 false),
   o1 7 (.idx .nil),
   o1 8 (.load 3 [] 0 (.t 7) 1 false),
   o1 9 (.data (.bin .eql) [.t 6, .t 8]),
   o1 10 (.copy 9),
   o2 11 (.idx .nil) 5 true,
   o2 12 (.load 2 [] 1 (.t 11) 1 false) 5 true,
   o2 13 (.idx .nil) 5 true,
   o2 14 (.load 3 [] 1 (.t 13) 1 false) 5 true,
   o2 15 (.data (.beq false) [.t 12, .t 14]) 5 true,
   ⟨false, [], [], .pick 10 (.t 15) (.c (.bool false)), [16], (some 16), none⟩,
   o1 17 (.copy 16),
   o2 18 (.idx .nil) 12 true,
   o2 19 (.load 2 [] 2 (.t 18) 1 false) 12 true,
   o2 20 (.idx .nil) 12 true,
   o2 21 (.load 3 [] 2 (.t 20) 1 false) 12 true,
   ⟨false, [], [], .call 1 349 [.t 19, .t 21] .no, [22], (some 22), some (12, true)⟩,
   ⟨false, [], [], .pick 17 (.t 22) (.c (.bool false)), [23], (some 23), none⟩,
   o1 24 (.copy 23),
   o2 25 (.idx .nil) 19 true,
   o2 26 (.load 2 [] 3 (.t 25) 1 false) 19 true,
   o2 27 (.idx .nil) 19 true,
   o2 28 (.load 3 [] 3 (.t 27) 1 false) 19 true,
   ⟨false, [], [], .call 1 262 [.t 26, .t 28] .no, [29], (some 29), some (19, true)⟩,
   ⟨false, [], [], .pick 24 (.t 29) (.c (.bool false)), [30], (some 30), none⟩,
   o1 4 (.copy 30)]))
 .ret))
def s_sl09SameAnswer : Sig := ⟨[.rd true [.d, .d, .sl (.own none) [.d, .d], .sl (.own none) [.d]], .rd true [.d, .d, .sl (.own none) [.d, .d], .sl (.own none) [.d]]], (.one false [.d])⟩
noncomputable def E_sl09SameAnswer : TEnv := envOf [(349, p_sl05SameEdges), (262, p_sl05SameInts)]
noncomputable def f_sl09SameAnswer (n : Nat) : (Int × Bool × List (Int × Int) × List (Int)) × (Int × Bool × List (Int × Int) × List (Int)) → Option ((Bool) × Unit) := runFn n E_sl09SameAnswer c_sl09SameAnswer [[.i .i64, .b, .sl [.i .i64, .i .i64], .sl [.i .i64]], [.i .i64, .b, .sl [.i .i64, .i .i64], .sl [.i .i64]]] [.b] [] [4] .no
noncomputable def g_sl09SameAnswer := f_sl09SameAnswer BIG
noncomputable def p_sl09SameAnswer : TSp := ⟨s_sl09SameAnswer, [[.i .i64, .b, .sl [.i .i64, .i .i64], .sl [.i .i64]], [.i .i64, .b, .sl [.i .i64, .i .i64], .sl [.i .i64]]], [.b], [], Ou.j .no, g_sl09SameAnswer⟩
theorem k_sl09SameAnswer : chkW PG E_sl09SameAnswer 318 s_sl09SameAnswer (c_sl09SameAnswer.ht 31) .no = some (c_sl09SameAnswer.wc E_sl09SameAnswer, [4]) := by kernel_rfl
theorem ok_sl09SameAnswer : p_sl09SameAnswer.Ok PG 318 := mkOk (env_cons ok_sl05SameEdges (env_cons ok_sl05SameInts (env_nil PG))) k_sl09SameAnswer (by kernel_rfl)
theorem e_sl09SameAnswer (n : Nat) (a0 : Int × Bool × List (Int × Int) × List (Int)) (a1 : Int × Bool × List (Int × Int) × List (Int)) : f_sl09SameAnswer n (a0, a1) =
  Option.bind (bif decide (a0.1 = a1.1) then
    bif (a0.2.1 == a1.2.1) then
     Option.bind (g_sl05SameEdges (a0.2.2.1, a1.2.2.1)) fun r0 =>
     bif r0.1 then
      Option.bind (g_sl05SameInts (a0.2.2.2, a1.2.2.2)) fun r1 =>
      some r1.1
     else some false
    else some false
   else some false : Option (Bool)) fun x2 =>
  some (x2, ()) := by kernel_rfl
/- spec.l10Blank -/
def c_sl10Blank : TC :=
 (.seq (.rg [o1 1 (.a (.t 0)),
   o1 2 (.lit [.b] [.bool false])])
 (.seq (.rg [o1 3 (.load 1 [] 0 .nil 4 false),
   o1 4 (.build [.i .i64, .b, .sl [.i .i64, .i .i64], .sl [.i .i64]] []),
   o3 5 318 [.t 3, .t 4],
   o1 2 (.copy 5)])
 .ret))
def s_sl10Blank : Sig := ⟨[.rd true [.d, .d, .sl (.own none) [.d, .d], .sl (.own none) [.d]]], (.one false [.d])⟩
noncomputable def E_sl10Blank : TEnv := envOf [(318, p_sl09SameAnswer)]
noncomputable def f_sl10Blank (n : Nat) : (Int × Bool × List (Int × Int) × List (Int)) → Option ((Bool) × Unit) := runFn n E_sl10Blank c_sl10Blank [[.i .i64, .b, .sl [.i .i64, .i .i64], .sl [.i .i64]]] [.b] [] [2] .no
noncomputable def g_sl10Blank := f_sl10Blank BIG
noncomputable def p_sl10Blank : TSp := ⟨s_sl10Blank, [[.i .i64, .b, .sl [.i .i64, .i .i64], .sl [.i .i64]]], [.b], [], Ou.j .no, g_sl10Blank⟩
theorem k_sl10Blank : chkW PG E_sl10Blank 230 s_sl10Blank (c_sl10Blank.ht 6) .no = some (c_sl10Blank.wc E_sl10Blank, [2]) := by kernel_rfl
theorem ok_sl10Blank : p_sl10Blank.Ok PG 230 := mkOk (env_cons ok_sl09SameAnswer (env_nil PG)) k_sl10Blank (by kernel_rfl)
theorem e_sl10Blank (n : Nat) (a0 : Int × Bool × List (Int × Int) × List (Int)) : f_sl10Blank n a0 =
  Option.bind (g_sl09SameAnswer (a0, ((0 : Int), false, [], []))) fun r0 =>
  some (r0.1, ()) := by kernel_rfl
/- spec.l09SameOrder -/
def c_sl09SameOrder : TC :=
 (.seq (.rg [o1 2 (.a (.t 0)),
   o1 3 (.a (.t 1)),
   o1 4 (.lit [.b] [.bool false])])
 (.seq (.join [⟨4, [.b], false⟩] 2147483632 none (.rg [o1 5 (.idx .nil),
   o1 6 (.load 2 [] 0 (.t 5) 1 false),
   o1 7 (.idx .nil),
   o1 8 (.load 3 [] 0 (.t 7) 1 false),
   o1 9 (.data (.bin .eql) [.t 6, .t 8]),
   o1 10 (.copy 9),
   o2 11 (.idx .nil) 5 true,
   o2 12 (.load 2 [] 1 (.t 11) 1 false) 5 true,
   o2 13 (.idx .nil) 5 true,
   o2 14 (.load 3 [] 1 (.t 13) 1 false) 5 true,
   o2 15 (.data (.bin .eql) [.t 12, .t 14]) 5 true,
   ⟨false, [], [], .pick 10 (.t 15) (.c (.bool false)), [16], (some 16), none⟩,
   o1 17 (.copy 16),
   o2 18 (.idx .nil) 12 true,
   o2 19 (.load 2 [] 3 (.t 18) 1 false) 12 true,
   o2 20 (.idx .nil) 12 true,
   o2 21 (.load 3 [] 3 (.t 20) 1 false) 12 true,
   o2 22 (.data (.bin .eql) [.t 19, .t 21]) 12 true,
   ⟨false, [], [], .pick 17 (.t 22) (.c (.bool false)), [23], (some 23), none⟩,
   o1 24 (.copy 23),
   o2 25 (.idx .nil) 19 true,
   o2 26 (.load 2 [] 2 (.t 25) 1 false) 19 true,
   o2 27 (.idx .nil) 19 true,
   o2 28 (.load 3 [] 2 (.t 27) 1 false) 19 true,
   ⟨false, [], [], .call 1 349 [.t 26, .t 28] .no, [29], (some 29), some (19, true)⟩,
   ⟨false, [], [], .pick 24 (.t 29) (.c (.bool false)), [30], (some 30), none⟩,
   o1 4 (.copy 30)]))
 .ret))
def s_sl09SameOrder : Sig := ⟨[.rd true [.d, .d, .sl (.own none) [.d, .d], .d], .rd true [.d, .d, .sl (.own none) [.d, .d], .d]], (.one false [.d])⟩
noncomputable def E_sl09SameOrder : TEnv := envOf [(349, p_sl05SameEdges)]
noncomputable def f_sl09SameOrder (n : Nat) : (Int × Int × List (Int × Int) × Int) × (Int × Int × List (Int × Int) × Int) → Option ((Bool) × Unit) := runFn n E_sl09SameOrder c_sl09SameOrder [[.i .i64, .i .i64, .sl [.i .i64, .i .i64], .i .i64], [.i .i64, .i .i64, .sl [.i .i64, .i .i64], .i .i64]] [.b] [] [4] .no
noncomputable def g_sl09SameOrder := f_sl09SameOrder BIG
noncomputable def p_sl09SameOrder : TSp := ⟨s_sl09SameOrder, [[.i .i64, .i .i64, .sl [.i .i64, .i .i64], .i .i64], [.i .i64, .i .i64, .sl [.i .i64, .i .i64], .i .i64]], [.b], [], Ou.j .no, g_sl09SameOrder⟩
theorem k_sl09SameOrder : chkW PG E_sl09SameOrder 319 s_sl09SameOrder (c_sl09SameOrder.ht 31) .no = some (c_sl09SameOrder.wc E_sl09SameOrder, [4]) := by kernel_rfl
theorem ok_sl09SameOrder : p_sl09SameOrder.Ok PG 319 := mkOk (env_cons ok_sl05SameEdges (env_nil PG)) k_sl09SameOrder (by kernel_rfl)
theorem e_sl09SameOrder (n : Nat) (a0 : Int × Int × List (Int × Int) × Int) (a1 : Int × Int × List (Int × Int) × Int) : f_sl09SameOrder n (a0, a1) =
  Option.bind (bif decide (a0.1 = a1.1) then
    bif decide (a0.2.1 = a1.2.1) then
     bif decide (a0.2.2.2 = a1.2.2.2) then
      Option.bind (g_sl05SameEdges (a0.2.2.1, a1.2.2.1)) fun r0 =>
      some r0.1
     else some false
    else some false
   else some false : Option (Bool)) fun x1 =>
  some (x1, ()) := by kernel_rfl
/- spec.l13BlankOrder -/
def c_sl13BlankOrder : TC :=
 (.seq (.rg [o1 1 (.a (.t 0)),
   o1 2 (.lit [.b] [.bool false])])
 (.seq (.rg [o1 3 (.load 1 [] 0 .nil 4 false),
   o1 4 (.build [.i .i64, .i .i64, .sl [.i .i64, .i .i64], .i .i64] []),
   o3 5 319 [.t 3, .t 4],
   o1 2 (.copy 5)])
 .ret))
def s_sl13BlankOrder : Sig := ⟨[.rd true [.d, .d, .sl (.own none) [.d, .d], .d]], (.one false [.d])⟩
noncomputable def E_sl13BlankOrder : TEnv := envOf [(319, p_sl09SameOrder)]
noncomputable def f_sl13BlankOrder (n : Nat) : (Int × Int × List (Int × Int) × Int) → Option ((Bool) × Unit) := runFn n E_sl13BlankOrder c_sl13BlankOrder [[.i .i64, .i .i64, .sl [.i .i64, .i .i64], .i .i64]] [.b] [] [2] .no
noncomputable def g_sl13BlankOrder := f_sl13BlankOrder BIG
noncomputable def p_sl13BlankOrder : TSp := ⟨s_sl13BlankOrder, [[.i .i64, .i .i64, .sl [.i .i64, .i .i64], .i .i64]], [.b], [], Ou.j .no, g_sl13BlankOrder⟩
theorem k_sl13BlankOrder : chkW PG E_sl13BlankOrder 231 s_sl13BlankOrder (c_sl13BlankOrder.ht 6) .no = some (c_sl13BlankOrder.wc E_sl13BlankOrder, [2]) := by kernel_rfl
theorem ok_sl13BlankOrder : p_sl13BlankOrder.Ok PG 231 := mkOk (env_cons ok_sl09SameOrder (env_nil PG)) k_sl13BlankOrder (by kernel_rfl)
theorem e_sl13BlankOrder (n : Nat) (a0 : Int × Int × List (Int × Int) × Int) : f_sl13BlankOrder n a0 =
  Option.bind (g_sl09SameOrder (a0, ((0 : Int), (0 : Int), [], (0 : Int)))) fun r0 =>
  some (r0.1, ()) := by kernel_rfl
/- spec.l01In -/
def c_sl01In : TC :=
 (.seq (.rg [o1 6 (.lit [.b] [.bool false])])
 (.seq (.join [⟨6, [.b], false⟩] 32704 none (.rg [o1 7 (.copy 0),
   o1 8 (.copy 1),
   o1 9 (.data (.bin .geq) [.t 7, .t 8]),
   o1 10 (.copy 9),
   o2 11 (.copy 0) 3 true,
   o2 12 (.copy 2) 3 true,
   o2 13 (.data (.bin .leq) [.t 11, .t 12]) 3 true,
   ⟨false, [], [], .pick 10 (.t 13) (.c (.bool false)), [14], (some 14), none⟩,
   o1 6 (.copy 14)]))
 .ret))
def s_sl01In : Sig := ⟨[.rd false [.d], .rd false [.d], .rd false [.d]], (.one false [.d])⟩
noncomputable def E_sl01In : TEnv := envOf []
noncomputable def f_sl01In (n : Nat) : Int × Int × Int → Option ((Bool) × Unit) := runFn n E_sl01In c_sl01In [[.i .i64], [.i .i64], [.i .i64]] [.b] [] [6] .no
noncomputable def g_sl01In := f_sl01In BIG
noncomputable def p_sl01In : TSp := ⟨s_sl01In, [[.i .i64], [.i .i64], [.i .i64]], [.b], [], Ou.j .no, g_sl01In⟩
theorem k_sl01In : chkW PG E_sl01In 163 s_sl01In (c_sl01In.ht 15) .no = some (c_sl01In.wc E_sl01In, [6]) := by kernel_rfl
theorem ok_sl01In : p_sl01In.Ok PG 163 := mkOk (env_nil PG) k_sl01In (by kernel_rfl)
theorem e_sl01In (n : Nat) (a0 : Int) (a1 : Int) (a2 : Int) : f_sl01In n (a0, a1, a2) =
  Option.bind (bif decide (a1 ≤ a0) then
    some (decide (a0 ≤ a2))
   else some false : Option (Bool)) fun x0 =>
  some (x0, ()) := by kernel_rfl
/- spec.l01Var -/
def c_sl01Var : TC :=
 (.seq (.rg [o1 2 (.lit [.s] [.string ⟨#[]⟩])])
 (.seq (.rg [o1 4 (.sli [.i .u8] []),
   ⟨false, [], [], .det 2 (.copy 4), [3, 4], (some 3), none⟩])
 (.seq (.join [⟨3, [.sl [.i .u8]], false⟩, ⟨0, [.i .i64], false⟩] 65513 none (.block 0 (.loop [⟨3, [.sl [.i .u8]], false⟩, ⟨0, [.i .i64], false⟩] 65513
  (.seq (.seq (.rg [o1 5 (.copy 0),
    o1 6 (.data (.bin .gtr) [.t 5, .c (.int .i64 (127))])])
  (.cond (.t 6)
   .skip
   (.exit 0)))
  (.block 1 (.seq (.rg [⟨false, [], [], .det 2 (.copy 3), [7, 3], (some 7), none⟩,
    o1 8 (.copy 0),
    o1 9 (.data (.bin .rem) [.t 8, .c (.int .i64 (128))]),
    o1 10 (.data (.bin .add) [.t 9, .c (.int .i64 (128))]),
    o1 11 (.data (.conv .u8) [.t 10]),
    o1 12 (.sli [.i .u8] [.t 11]),
    ⟨false, [], [], .det 2 (.app (some 7) 12), [13, 7], (some 13), none⟩,
    ⟨false, [], [], .det 2 (.copy 13), [3, 13], (some 3), none⟩])
  (.rg [o1 14 (.copy 0),
    o1 15 (.data (.bin .quo) [.t 14, .c (.int .i64 (128))]),
    o1 0 (.copy 15)])))))))
 (.seq (.rg [⟨false, [], [], .det 2 (.copy 3), [16, 3], (some 16), none⟩,
   o1 17 (.copy 0),
   o1 18 (.data (.conv .u8) [.t 17]),
   o1 19 (.sli [.i .u8] [.t 18]),
   ⟨false, [], [], .det 2 (.app (some 16) 19), [20, 16], (some 20), none⟩,
   o1 21 (.bytes 20),
   o1 2 (.copy 21)])
 .ret))))
def s_sl01Var : Sig := ⟨[.rd false [.d]], (.one false [.d])⟩
noncomputable def E_sl01Var : TEnv := envOf []
noncomputable def f_sl01Var (n : Nat) : Int → Option ((ByteArray) × Unit) := runFn n E_sl01Var c_sl01Var [[.i .i64]] [.s] [] [2] .no
noncomputable def g_sl01Var := f_sl01Var BIG
noncomputable def p_sl01Var : TSp := ⟨s_sl01Var, [[.i .i64]], [.s], [], Ou.j .no, g_sl01Var⟩
theorem k_sl01Var : chkW PG E_sl01Var 232 s_sl01Var (c_sl01Var.ht 22) .no = some (c_sl01Var.wc E_sl01Var, [2]) := by kernel_rfl
theorem ok_sl01Var : p_sl01Var.Ok PG 232 := mkOk (env_nil PG) k_sl01Var (by kernel_rfl)
theorem e_sl01Var (n : Nat) (a0 : Int) : f_sl01Var n a0 =
  Option.bind (loopT n (X := (List (Int)) × Int) (B := (List (Int)) × Int) (fun self1 x0 =>
    bif decide ((127 : Int) < x0.2) then
     bif decide ((128 : Int) = 0) then
      none
     else bif decide (x0.1.length + ([IntKind.wrap .u8 (IntKind.wrap .i64 ((Int.tmod x0.2 (128 : Int)) + (128 : Int)))]).length ≤ 4294967296) then
      bif decide ((128 : Int) = 0) then
       none
      else self1 (x0.1 ++ ([IntKind.wrap .u8 (IntKind.wrap .i64 ((Int.tmod x0.2 (128 : Int)) + (128 : Int)))]), IntKind.wrap .i64 (Int.tdiv x0.2 (128 : Int)))
     else none
    else some (x0.1, x0.2)) ([], a0) : Option ((List (Int)) × Int)) fun x2 =>
  bif decide (x2.1.length + ([IntKind.wrap .u8 (x2.2)]).length ≤ 4294967296) then
   some (bytesStr (x2.1 ++ ([IntKind.wrap .u8 (x2.2)])), ())
  else none := by kernel_rfl
/- spec.EdgeOk -/
def c_sEdgeOk : TC :=
 (.seq (.rg [o1 3 (.a (.t 1)),
   o1 4 (.lit [.b] [.bool false])])
 (.seq (.join [⟨4, [.b], false⟩] 268435440 none (.rg [o1 5 (.copy 0),
   o3 6 163 [.t 5, .c [.i .i64] [.int .i64 (1)], .c [.i .i64] [.int .i64 (12)]],
   o1 7 (.copy 6),
   o2 8 (.idx .nil) 2 true,
   o2 9 (.load 3 [] 0 (.t 8) 1 false) 2 true,
   o2 10 (.copy 0) 2 true,
   o2 11 (.data (.bin .sub) [.t 10, .c (.int .i64 (1))]) 2 true,
   ⟨false, [], [], .call 1 163 [.t 9, .c [.i .i64] [.int .i64 (0)], .t 11] .no, [12], (some 12), some (2, true)⟩,
   ⟨false, [], [], .pick 7 (.t 12) (.c (.bool false)), [13], (some 13), none⟩,
   o1 14 (.copy 13),
   o2 15 (.idx .nil) 9 true,
   o2 16 (.load 3 [] 1 (.t 15) 1 false) 9 true,
   o2 17 (.copy 0) 9 true,
   o2 18 (.data (.bin .sub) [.t 17, .c (.int .i64 (1))]) 9 true,
   ⟨false, [], [], .call 1 163 [.t 16, .c [.i .i64] [.int .i64 (0)], .t 18] .no, [19], (some 19), some (9, true)⟩,
   ⟨false, [], [], .pick 14 (.t 19) (.c (.bool false)), [20], (some 20), none⟩,
   o1 21 (.copy 20),
   o2 22 (.idx .nil) 16 true,
   o2 23 (.load 3 [] 0 (.t 22) 1 false) 16 true,
   o2 24 (.idx .nil) 16 true,
   o2 25 (.load 3 [] 1 (.t 24) 1 false) 16 true,
   o2 26 (.data (.bin .lss) [.t 23, .t 25]) 16 true,
   ⟨false, [], [], .pick 21 (.t 26) (.c (.bool false)), [27], (some 27), none⟩,
   o1 4 (.copy 27)]))
 .ret))
def s_sEdgeOk : Sig := ⟨[.rd false [.d], .rd true [.d, .d]], (.one false [.d])⟩
noncomputable def E_sEdgeOk : TEnv := envOf [(163, p_sl01In)]
noncomputable def f_sEdgeOk (n : Nat) : Int × (Int × Int) → Option ((Bool) × Unit) := runFn n E_sEdgeOk c_sEdgeOk [[.i .i64], [.i .i64, .i .i64]] [.b] [] [4] .no
noncomputable def g_sEdgeOk := f_sEdgeOk BIG
noncomputable def p_sEdgeOk : TSp := ⟨s_sEdgeOk, [[.i .i64], [.i .i64, .i .i64]], [.b], [], Ou.j .no, g_sEdgeOk⟩
theorem k_sEdgeOk : chkW PG E_sEdgeOk 167 s_sEdgeOk (c_sEdgeOk.ht 28) .no = some (c_sEdgeOk.wc E_sEdgeOk, [4]) := by kernel_rfl
theorem ok_sEdgeOk : p_sEdgeOk.Ok PG 167 := mkOk (env_cons ok_sl01In (env_nil PG)) k_sEdgeOk (by kernel_rfl)
theorem e_sEdgeOk (n : Nat) (a0 : Int) (a1 : Int × Int) : f_sEdgeOk n (a0, a1) =
  Option.bind (Option.bind (g_sl01In (a0, (1 : Int), (12 : Int))) fun r0 =>
   bif r0.1 then
    Option.bind (g_sl01In (a1.1, (0 : Int), IntKind.wrap .i64 (a0 - (1 : Int)))) fun r1 =>
    bif r1.1 then
     Option.bind (g_sl01In (a1.2, (0 : Int), IntKind.wrap .i64 (a0 - (1 : Int)))) fun r2 =>
     bif r2.1 then
      some (decide (a1.1 < a1.2))
     else some false
    else some false
   else some false : Option (Bool)) fun x3 =>
  some (x3, ()) := by kernel_rfl
/- spec.l05Less -/
def c_sl05Less : TC :=
 (.seq (.rg [o1 2 (.a (.t 0)),
   o1 3 (.a (.t 1)),
   o1 4 (.lit [.b] [.bool false])])
 (.seq (.join [⟨4, [.b], false⟩] 16777200 none (.rg [o1 5 (.idx .nil),
   o1 6 (.load 2 [] 0 (.t 5) 1 false),
   o1 7 (.idx .nil),
   o1 8 (.load 3 [] 0 (.t 7) 1 false),
   o1 9 (.data (.bin .lss) [.t 6, .t 8]),
   o1 10 (.copy 9),
   o2 11 (.idx .nil) 5 false,
   o2 12 (.load 2 [] 0 (.t 11) 1 false) 5 false,
   o2 13 (.idx .nil) 5 false,
   o2 14 (.load 3 [] 0 (.t 13) 1 false) 5 false,
   o2 15 (.data (.bin .eql) [.t 12, .t 14]) 5 false,
   o2 16 (.copy 15) 5 false,
   o2 17 (.idx .nil) 11 true,
   o2 18 (.load 2 [] 1 (.t 17) 1 false) 11 true,
   o2 19 (.idx .nil) 11 true,
   o2 20 (.load 3 [] 1 (.t 19) 1 false) 11 true,
   o2 21 (.data (.bin .lss) [.t 18, .t 20]) 11 true,
   ⟨false, [], [], .pick 16 (.t 21) (.c (.bool false)), [22], (some 22), some (5, false)⟩,
   ⟨false, [], [], .pick 10 (.c (.bool true)) (.t 22), [23], (some 23), none⟩,
   o1 4 (.copy 23)]))
 .ret))
def s_sl05Less : Sig := ⟨[.rd true [.d, .d], .rd true [.d, .d]], (.one false [.d])⟩
noncomputable def E_sl05Less : TEnv := envOf []
noncomputable def f_sl05Less (n : Nat) : (Int × Int) × (Int × Int) → Option ((Bool) × Unit) := runFn n E_sl05Less c_sl05Less [[.i .i64, .i .i64], [.i .i64, .i .i64]] [.b] [] [4] .no
noncomputable def g_sl05Less := f_sl05Less BIG
noncomputable def p_sl05Less : TSp := ⟨s_sl05Less, [[.i .i64, .i .i64], [.i .i64, .i .i64]], [.b], [], Ou.j .no, g_sl05Less⟩
theorem k_sl05Less : chkW PG E_sl05Less 317 s_sl05Less (c_sl05Less.ht 24) .no = some (c_sl05Less.wc E_sl05Less, [4]) := by kernel_rfl
theorem ok_sl05Less : p_sl05Less.Ok PG 317 := mkOk (env_nil PG) k_sl05Less (by kernel_rfl)
theorem e_sl05Less (n : Nat) (a0 : Int × Int) (a1 : Int × Int) : f_sl05Less n (a0, a1) =
  Option.bind (bif decide (a0.1 < a1.1) then
    some true
   else bif decide (a0.1 = a1.1) then
    some (decide (a0.2 < a1.2))
   else some false : Option (Bool)) fun x0 =>
  some (x0, ()) := by kernel_rfl
/- spec.l05Edges -/
def c_sl05Edges : TC :=
 (.seq (.rg [o1 4 (.lit [.b] [.bool false])])
 (.seq (.join [] 68719476720 (some [⟨4, [.b], false⟩]) (.seq (.rg [o1 5 (.lit [.i .i64] [.int .i64 (0)])])
 (.block 0 (.loop [⟨5, [.i .i64], false⟩] 68719476720
  (.seq (.seq (.rg [o1 6 (.copy 5),
    o1 7 (.copy 1),
    o1 8 (.len 7),
    o1 9 (.data (.bin .lss) [.t 6, .t 8])])
  (.cond (.t 9)
   .skip
   (.exit 0)))
  (.seq (.join [] 68719472656 (some [⟨4, [.b], false⟩]) (.block 1 (.seq (.join [⟨35, [.b], false⟩] 68719472640 none (.rg [o1 12 (.copy 0),
    o1 13 (.copy 1),
    o1 14 (.copy 5),
    o1 15 (.index 13 (.t 14)),
    o1 16 (.load 13 [(0, 2)] 0 (.t 15) 2 false),
    o3 17 167 [.t 12, .t 16],
    o1 18 (.data .not [.t 17]),
    o1 19 (.copy 18),
    o2 20 (.copy 5) 7 false,
    o2 21 (.data (.bin .gtr) [.t 20, .c (.int .i64 (0))]) 7 false,
    o2 22 (.copy 21) 7 false,
    o2 23 (.copy 1) 10 true,
    o2 24 (.copy 5) 10 true,
    o2 25 (.data (.bin .sub) [.t 24, .c (.int .i64 (1))]) 10 true,
    o2 26 (.index 23 (.t 25)) 10 true,
    o2 27 (.load 23 [(0, 2)] 0 (.t 26) 2 false) 10 true,
    o2 28 (.copy 1) 10 true,
    o2 29 (.copy 5) 10 true,
    o2 30 (.index 28 (.t 29)) 10 true,
    o2 31 (.load 28 [(0, 2)] 0 (.t 30) 2 false) 10 true,
    ⟨false, [], [], .call 1 317 [.t 27, .t 31] .no, [32], (some 32), some (10, true)⟩,
    o2 33 (.data .not [.t 32]) 10 true,
    ⟨false, [], [], .pick 22 (.t 33) (.c (.bool false)), [34], (some 34), some (7, false)⟩,
    ⟨false, [], [], .pick 19 (.c (.bool true)) (.t 34), [35], (some 35), none⟩]))
  (.cond (.t 35)
   (.seq (.rg [o1 4 (.lit [.b] [.bool false])])
   .ret)
   .skip))))
  (.rg [o1 10 (.copy 5),
    o1 11 (.data (.bin .add) [.t 10, .c (.int .i64 (1))]),
    o1 5 (.copy 11)])))))))
 (.seq (.rg [o1 36 (.copy 1),
   o1 37 (.len 36),
   o1 38 (.data (.bin .leq) [.t 37, .c (.int .i64 (66))]),
   o1 4 (.copy 38)])
 .ret)))
def s_sl05Edges : Sig := ⟨[.rd false [.d], .rd false [.sl (.own none) [.d, .d]]], (.one false [.d])⟩
noncomputable def E_sl05Edges : TEnv := envOf [(167, p_sEdgeOk), (317, p_sl05Less)]
noncomputable def f_sl05Edges (n : Nat) : Int × (List (Int × Int)) → Option ((Bool) × Unit) := runFn n E_sl05Edges c_sl05Edges [[.i .i64], [.sl [.i .i64, .i .i64]]] [.b] [] [4] .no
noncomputable def g_sl05Edges := f_sl05Edges BIG
noncomputable def p_sl05Edges : TSp := ⟨s_sl05Edges, [[.i .i64], [.sl [.i .i64, .i .i64]]], [.b], [], Ou.j .no, g_sl05Edges⟩
theorem k_sl05Edges : chkW PG E_sl05Edges 228 s_sl05Edges (c_sl05Edges.ht 39) .no = some (c_sl05Edges.wc E_sl05Edges, [4]) := by kernel_rfl
theorem ok_sl05Edges : p_sl05Edges.Ok PG 228 := mkOk (env_cons ok_sEdgeOk (env_cons ok_sl05Less (env_nil PG))) k_sl05Edges (by kernel_rfl)
theorem e_sl05Edges (n : Nat) (a0 : Int) (a1 : List (Int × Int)) : f_sl05Edges n (a0, a1) =
  Option.bind (loopT n (X := Int) (B := (Unit) ⊕ (Bool)) (fun self1 x0 =>
    bif decide (x0 < (a1.length : Int)) then
     Option.bind (Option.bind (bnd a1.length x0 fun n2 =>
       Option.bind a1[n2]? fun y3 =>
       Option.bind (g_sEdgeOk (a0, y3)) fun r4 =>
       bif !r4.1 then
        some true
       else bif decide ((0 : Int) < x0) then
        bnd a1.length (IntKind.wrap .i64 (x0 - (1 : Int))) fun n5 =>
        Option.bind a1[n5]? fun y6 =>
        bnd a1.length x0 fun n7 =>
        Option.bind a1[n7]? fun y8 =>
        Option.bind (g_sl05Less (y6, y8)) fun r9 =>
        some !r9.1
       else some false : Option (Bool)) fun x10 =>
      bif x10 then
       some (Sum.inr false)
      else some (Sum.inl ()) : Option ((Unit) ⊕ (Bool))) fun y => match y with
     | .inl x11 =>
      self1 (IntKind.wrap .i64 (x0 + (1 : Int)))
     | .inr x11 =>
      some (Sum.inr x11)
    else some (Sum.inl ())) (0 : Int) : Option ((Unit) ⊕ (Bool))) fun y => match y with
  | .inl x12 =>
   some (decide ((a1.length : Int) ≤ (66 : Int)), ())
  | .inr x12 =>
   some (x12, ()) := by kernel_rfl
/- spec.l09Labels -/
def c_sl09Labels : TC :=
 (.seq (.rg [o1 4 (.lit [.b] [.bool false])])
 (.seq (.seq (.rg [o1 6 (.copy 1),
   o1 7 (.len 6),
   o1 8 (.copy 0),
   o1 9 (.data (.bin .neq) [.t 7, .t 8])])
 (.cond (.t 9)
  (.seq (.rg [o1 4 (.lit [.b] [.bool false])])
  .ret)
  .skip))
 (.seq (.join [] 68719475760 (some [⟨4, [.b], false⟩]) (.seq (.rg [o1 5 (.lit [.i .i64] [.int .i64 (0)])])
 (.block 0 (.loop [⟨5, [.i .i64], false⟩] 68719475760
  (.seq (.seq (.rg [o1 10 (.copy 5),
    o1 11 (.copy 0),
    o1 12 (.data (.bin .lss) [.t 10, .t 11])])
  (.cond (.t 12)
   .skip
   (.exit 0)))
  (.seq (.join [] 68719443984 (some [⟨4, [.b], false⟩]) (.block 1 (.seq (.join [⟨35, [.b], false⟩] 68719443968 none (.rg [o1 15 (.copy 1),
    o1 16 (.copy 5),
    o1 17 (.index 15 (.t 16)),
    o1 18 (.load 15 [(0, 1)] 0 (.t 17) 1 false),
    o1 19 (.copy 5),
    o3 20 163 [.t 18, .c [.i .i64] [.int .i64 (0)], .t 19],
    o1 21 (.data .not [.t 20]),
    o1 22 (.copy 21),
    o2 23 (.copy 1) 7 false,
    o2 24 (.copy 1) 7 false,
    o2 25 (.copy 5) 7 false,
    o2 26 (.index 24 (.t 25)) 7 false,
    o2 27 (.load 24 [(0, 1)] 0 (.t 26) 1 false) 7 false,
    o2 28 (.index 23 (.t 27)) 7 false,
    o2 29 (.load 23 [(0, 1)] 0 (.t 28) 1 false) 7 false,
    o2 30 (.copy 1) 7 false,
    o2 31 (.copy 5) 7 false,
    o2 32 (.index 30 (.t 31)) 7 false,
    o2 33 (.load 30 [(0, 1)] 0 (.t 32) 1 false) 7 false,
    o2 34 (.data (.bin .neq) [.t 29, .t 33]) 7 false,
    ⟨false, [], [], .pick 22 (.c (.bool true)) (.t 34), [35], (some 35), none⟩]))
  (.cond (.t 35)
   (.seq (.rg [o1 4 (.lit [.b] [.bool false])])
   .ret)
   .skip))))
  (.rg [o1 13 (.copy 5),
    o1 14 (.data (.bin .add) [.t 13, .c (.int .i64 (1))]),
    o1 5 (.copy 14)])))))))
 (.seq (.rg [o1 4 (.lit [.b] [.bool true])])
 .ret))))
def s_sl09Labels : Sig := ⟨[.rd false [.d], .rd false [.sl (.own none) [.d]]], (.one false [.d])⟩
noncomputable def E_sl09Labels : TEnv := envOf [(163, p_sl01In)]
noncomputable def f_sl09Labels (n : Nat) : Int × List (Int) → Option ((Bool) × Unit) := runFn n E_sl09Labels c_sl09Labels [[.i .i64], [.sl [.i .i64]]] [.b] [] [4] .no
noncomputable def g_sl09Labels := f_sl09Labels BIG
noncomputable def p_sl09Labels : TSp := ⟨s_sl09Labels, [[.i .i64], [.sl [.i .i64]]], [.b], [], Ou.j .no, g_sl09Labels⟩
theorem k_sl09Labels : chkW PG E_sl09Labels 240 s_sl09Labels (c_sl09Labels.ht 36) .no = some (c_sl09Labels.wc E_sl09Labels, [4]) := by kernel_rfl
theorem ok_sl09Labels : p_sl09Labels.Ok PG 240 := mkOk (env_cons ok_sl01In (env_nil PG)) k_sl09Labels (by kernel_rfl)
theorem e_sl09Labels (n : Nat) (a0 : Int) (a1 : List (Int)) : f_sl09Labels n (a0, a1) =
  bif !decide ((a1.length : Int) = a0) then
   some (false, ())
  else Option.bind (loopT n (X := Int) (B := (Unit) ⊕ (Bool)) (fun self1 x0 =>
    bif decide (x0 < a0) then
     Option.bind (Option.bind (bnd a1.length x0 fun n2 =>
       Option.bind a1[n2]? fun y3 =>
       Option.bind (g_sl01In (y3, (0 : Int), x0)) fun r4 =>
       bif !r4.1 then
        some true
       else bnd a1.length x0 fun n5 =>
       Option.bind a1[n5]? fun y6 =>
       bnd a1.length y6 fun n7 =>
       Option.bind a1[n7]? fun y8 =>
       bnd a1.length x0 fun n9 =>
       Option.bind a1[n9]? fun y10 =>
       some (!decide (y8 = y10)) : Option (Bool)) fun x11 =>
      bif x11 then
       some (Sum.inr false)
      else some (Sum.inl ()) : Option ((Unit) ⊕ (Bool))) fun y => match y with
     | .inl x12 =>
      self1 (IntKind.wrap .i64 (x0 + (1 : Int)))
     | .inr x12 =>
      some (Sum.inr x12)
    else some (Sum.inl ())) (0 : Int) : Option ((Unit) ⊕ (Bool))) fun y => match y with
  | .inl x13 =>
   some (true, ())
  | .inr x13 =>
   some (x13, ()) := by kernel_rfl
/- spec.AnswerOk -/
def c_sAnswerOk : TC :=
 (.seq (.rg [o1 3 (.a (.t 1)),
   o1 4 (.lit [.b] [.bool false])])
 (.seq (.join [⟨4, [.b], false⟩] 16777200 none (.rg [o1 5 (.copy 0),
   o3 6 163 [.t 5, .c [.i .i64] [.int .i64 (1)], .c [.i .i64] [.int .i64 (12)]],
   o1 7 (.copy 6),
   o2 8 (.idx .nil) 2 true,
   o2 9 (.load 3 [] 0 (.t 8) 1 false) 2 true,
   ⟨false, [], [], .call 1 163 [.t 9, .c [.i .i64] [.int .i64 (1)], .c [.i .i64] [.int .i64 (100000)]] .no, [10], (some 10), some (2, true)⟩,
   ⟨false, [], [], .pick 7 (.t 10) (.c (.bool false)), [11], (some 11), none⟩,
   o1 12 (.copy 11),
   o2 13 (.copy 0) 7 true,
   o2 14 (.idx .nil) 7 true,
   o2 15 (.load 3 [] 2 (.t 14) 1 false) 7 true,
   ⟨false, [], [], .call 1 228 [.t 13, .t 15] .no, [16], (some 16), some (7, true)⟩,
   ⟨false, [], [], .pick 12 (.t 16) (.c (.bool false)), [17], (some 17), none⟩,
   o1 18 (.copy 17),
   o2 19 (.copy 0) 13 true,
   o2 20 (.idx .nil) 13 true,
   o2 21 (.load 3 [] 3 (.t 20) 1 false) 13 true,
   ⟨false, [], [], .call 1 240 [.t 19, .t 21] .no, [22], (some 22), some (13, true)⟩,
   ⟨false, [], [], .pick 18 (.t 22) (.c (.bool false)), [23], (some 23), none⟩,
   o1 4 (.copy 23)]))
 .ret))
def s_sAnswerOk : Sig := ⟨[.rd false [.d], .rd true [.d, .d, .sl (.own none) [.d, .d], .sl (.own none) [.d]]], (.one false [.d])⟩
noncomputable def E_sAnswerOk : TEnv := envOf [(163, p_sl01In), (228, p_sl05Edges), (240, p_sl09Labels)]
noncomputable def f_sAnswerOk (n : Nat) : Int × (Int × Bool × List (Int × Int) × List (Int)) → Option ((Bool) × Unit) := runFn n E_sAnswerOk c_sAnswerOk [[.i .i64], [.i .i64, .b, .sl [.i .i64, .i .i64], .sl [.i .i64]]] [.b] [] [4] .no
noncomputable def g_sAnswerOk := f_sAnswerOk BIG
noncomputable def p_sAnswerOk : TSp := ⟨s_sAnswerOk, [[.i .i64], [.i .i64, .b, .sl [.i .i64, .i .i64], .sl [.i .i64]]], [.b], [], Ou.j .no, g_sAnswerOk⟩
theorem k_sAnswerOk : chkW PG E_sAnswerOk 120 s_sAnswerOk (c_sAnswerOk.ht 24) .no = some (c_sAnswerOk.wc E_sAnswerOk, [4]) := by kernel_rfl
theorem ok_sAnswerOk : p_sAnswerOk.Ok PG 120 := mkOk (env_cons ok_sl01In (env_cons ok_sl05Edges (env_cons ok_sl09Labels (env_nil PG)))) k_sAnswerOk (by kernel_rfl)
theorem e_sAnswerOk (n : Nat) (a0 : Int) (a1 : Int × Bool × List (Int × Int) × List (Int)) : f_sAnswerOk n (a0, a1) =
  Option.bind (Option.bind (g_sl01In (a0, (1 : Int), (12 : Int))) fun r0 =>
   bif r0.1 then
    Option.bind (g_sl01In (a1.1, (1 : Int), (100000 : Int))) fun r1 =>
    bif r1.1 then
     Option.bind (g_sl05Edges (a0, a1.2.2.1)) fun r2 =>
     bif r2.1 then
      Option.bind (g_sl09Labels (a0, a1.2.2.2)) fun r3 =>
      some r3.1
     else some false
    else some false
   else some false : Option (Bool)) fun x4 =>
  some (x4, ()) := by kernel_rfl
/- spec.l09Flag -/
def c_sl09Flag : TC :=
 (.seq (.rg [o1 2 (.lit [.s] [.string ⟨#[]⟩])])
 (.seq (.seq (.rg [o1 3 (.copy 0)])
 (.cond (.t 3)
  (.seq (.rg [o1 2 (.lit [.s] [.string ⟨#[1]⟩])])
  .ret)
  .skip))
 (.seq (.rg [o1 2 (.lit [.s] [.string ⟨#[0]⟩])])
 .ret)))
def s_sl09Flag : Sig := ⟨[.rd false [.d]], (.one false [.d])⟩
noncomputable def E_sl09Flag : TEnv := envOf []
noncomputable def f_sl09Flag (n : Nat) : Bool → Option ((ByteArray) × Unit) := runFn n E_sl09Flag c_sl09Flag [[.b]] [.s] [] [2] .no
noncomputable def g_sl09Flag := f_sl09Flag BIG
noncomputable def p_sl09Flag : TSp := ⟨s_sl09Flag, [[.b]], [.s], [], Ou.j .no, g_sl09Flag⟩
theorem k_sl09Flag : chkW PG E_sl09Flag 306 s_sl09Flag (c_sl09Flag.ht 4) .no = some (c_sl09Flag.wc E_sl09Flag, [2]) := by kernel_rfl
theorem ok_sl09Flag : p_sl09Flag.Ok PG 306 := mkOk (env_nil PG) k_sl09Flag (by kernel_rfl)
theorem e_sl09Flag (n : Nat) (a0 : Bool) : f_sl09Flag n a0 =
  bif a0 then
   some ((ByteArray.mk #[1]), ())
  else some ((ByteArray.mk #[0]), ()) := by kernel_rfl
/- spec.l09Byte -/
def c_sl09Byte : TC :=
 (.seq (.rg [o1 2 (.lit [.s] [.string ⟨#[]⟩])])
 (.seq (.rg [o1 3 (.copy 0),
   o1 4 (.data (.conv .u8) [.t 3]),
   o1 5 (.sli [.i .u8] [.t 4]),
   o1 6 (.bytes 5),
   o1 2 (.copy 6)])
 .ret))
def s_sl09Byte : Sig := ⟨[.rd false [.d]], (.one false [.d])⟩
noncomputable def E_sl09Byte : TEnv := envOf []
noncomputable def f_sl09Byte (n : Nat) : Int → Option ((ByteArray) × Unit) := runFn n E_sl09Byte c_sl09Byte [[.i .i64]] [.s] [] [2] .no
noncomputable def g_sl09Byte := f_sl09Byte BIG
noncomputable def p_sl09Byte : TSp := ⟨s_sl09Byte, [[.i .i64]], [.s], [], Ou.j .no, g_sl09Byte⟩
theorem k_sl09Byte : chkW PG E_sl09Byte 301 s_sl09Byte (c_sl09Byte.ht 7) .no = some (c_sl09Byte.wc E_sl09Byte, [2]) := by kernel_rfl
theorem ok_sl09Byte : p_sl09Byte.Ok PG 301 := mkOk (env_nil PG) k_sl09Byte (by kernel_rfl)
theorem e_sl09Byte (n : Nat) (a0 : Int) : f_sl09Byte n a0 =
  some (bytesStr ([IntKind.wrap .u8 (a0)]), ()) := by kernel_rfl
/- spec.l09Edges -/
def c_sl09Edges : TC :=
 (.seq (.rg [o1 2 (.lit [.s] [.string ⟨#[]⟩])])
 (.seq (.rg [o1 5 (.copy 0),
   o1 6 (.len 5),
   o3 7 232 [.t 6],
   o1 3 (.copy 7)])
 (.seq (.join [⟨3, [.s], false⟩] 536870680 none (.seq (.rg [o1 4 (.lit [.i .i64] [.int .i64 (0)])])
 (.block 0 (.loop [⟨3, [.s], false⟩, ⟨4, [.i .i64], false⟩] 536870680
  (.seq (.seq (.rg [o1 8 (.copy 4),
    o1 9 (.copy 0),
    o1 10 (.len 9),
    o1 11 (.data (.bin .lss) [.t 8, .t 10])])
  (.cond (.t 11)
   .skip
   (.exit 0)))
  (.seq (.block 1 (.rg [o1 14 (.copy 3),
    o1 15 (.copy 0),
    o1 16 (.copy 4),
    o1 17 (.index 15 (.t 16)),
    o1 18 (.idx (.t 17)),
    o1 19 (.load 15 [(0, 2)] 0 (.t 18) 1 false),
    o3 20 301 [.t 19],
    o1 21 (.data (.bin .add) [.t 14, .t 20]),
    o1 22 (.copy 0),
    o1 23 (.copy 4),
    o1 24 (.index 22 (.t 23)),
    o1 25 (.idx (.t 24)),
    o1 26 (.load 22 [(0, 2)] 1 (.t 25) 1 false),
    o3 27 301 [.t 26],
    o1 28 (.data (.bin .add) [.t 21, .t 27]),
    o1 3 (.copy 28)]))
  (.rg [o1 12 (.copy 4),
    o1 13 (.data (.bin .add) [.t 12, .c (.int .i64 (1))]),
    o1 4 (.copy 13)])))))))
 (.seq (.rg [o1 29 (.copy 3),
   o1 2 (.copy 29)])
 .ret))))
def s_sl09Edges : Sig := ⟨[.rd false [.sl (.own none) [.d, .d]]], (.one false [.d])⟩
noncomputable def E_sl09Edges : TEnv := envOf [(232, p_sl01Var), (301, p_sl09Byte)]
noncomputable def f_sl09Edges (n : Nat) : (List (Int × Int)) → Option ((ByteArray) × Unit) := runFn n E_sl09Edges c_sl09Edges [[.sl [.i .i64, .i .i64]]] [.s] [] [2] .no
noncomputable def g_sl09Edges := f_sl09Edges BIG
noncomputable def p_sl09Edges : TSp := ⟨s_sl09Edges, [[.sl [.i .i64, .i .i64]]], [.s], [], Ou.j .no, g_sl09Edges⟩
theorem k_sl09Edges : chkW PG E_sl09Edges 302 s_sl09Edges (c_sl09Edges.ht 30) .no = some (c_sl09Edges.wc E_sl09Edges, [2]) := by kernel_rfl
theorem ok_sl09Edges : p_sl09Edges.Ok PG 302 := mkOk (env_cons ok_sl01Var (env_cons ok_sl09Byte (env_nil PG))) k_sl09Edges (by kernel_rfl)
theorem e_sl09Edges (n : Nat) (a0 : List (Int × Int)) : f_sl09Edges n a0 =
  Option.bind (g_sl01Var (a0.length : Int)) fun r0 =>
  Option.bind (loopT n (X := ByteArray × Int) (B := ByteArray) (fun self2 x1 =>
    bif decide (x1.2 < (a0.length : Int)) then
     bnd a0.length x1.2 fun n3 =>
     Option.bind a0[n3]? fun y4 =>
     Option.bind (g_sl09Byte y4.1) fun r5 =>
     bif decide (x1.1.size + r5.1.size ≤ 4611686018427387904) then
      bnd a0.length x1.2 fun n6 =>
      Option.bind a0[n6]? fun y7 =>
      Option.bind (g_sl09Byte y7.2) fun r8 =>
      bif decide ((x1.1 ++ r5.1).size + r8.1.size ≤ 4611686018427387904) then
       self2 ((x1.1 ++ r5.1) ++ r8.1, IntKind.wrap .i64 (x1.2 + (1 : Int)))
      else none
     else none
    else some x1.1) (r0.1, (0 : Int)) : Option (ByteArray)) fun x9 =>
  some (x9, ()) := by kernel_rfl
/- spec.AnswerText -/
def c_sAnswerText : TC :=
 (.seq (.rg [o1 3 (.a (.t 1)),
   o1 4 (.lit [.s] [.string ⟨#[]⟩]),
   o1 5 (.lit [.b] [.bool false])])
 (.seq (.seq (.rg [o1 8 (.copy 0),
   o1 9 (.load 3 [] 0 .nil 4 false),
   o3 10 120 [.t 8, .t 9],
   o1 11 (.data .not [.t 10])])
 (.cond (.t 11)
  (.seq (.rg [o1 4 (.lit [.s] [.string ⟨#[]⟩]),
    o1 5 (.lit [.b] [.bool false])])
  .ret)
  .skip))
 (.seq (.rg [o1 12 (.idx .nil),
   o1 13 (.load 3 [] 0 (.t 12) 1 false),
   o3 14 232 [.t 13],
   o1 15 (.idx .nil),
   o1 16 (.load 3 [] 1 (.t 15) 1 false),
   o3 17 306 [.t 16],
   o1 18 (.data (.bin .add) [.t 14, .t 17]),
   o1 19 (.idx .nil),
   o1 20 (.load 3 [] 2 (.t 19) 1 false),
   o3 21 302 [.t 20],
   o1 22 (.data (.bin .add) [.t 18, .t 21]),
   o1 6 (.copy 22)])
 (.seq (.join [⟨6, [.s], false⟩] 68711088320 none (.seq (.rg [o1 7 (.lit [.i .i64] [.int .i64 (0)])])
 (.block 0 (.loop [⟨6, [.s], false⟩, ⟨7, [.i .i64], false⟩] 68711088320
  (.seq (.seq (.rg [o1 23 (.copy 7),
    o1 24 (.copy 0),
    o1 25 (.data (.bin .lss) [.t 23, .t 24])])
  (.cond (.t 25)
   .skip
   (.exit 0)))
  (.seq (.block 1 (.rg [o1 28 (.copy 6),
    o1 29 (.idx .nil),
    o1 30 (.load 3 [] 3 (.t 29) 1 false),
    o1 31 (.copy 7),
    o1 32 (.index 30 (.t 31)),
    o1 33 (.load 30 [(0, 1)] 0 (.t 32) 1 false),
    o3 34 301 [.t 33],
    o1 35 (.data (.bin .add) [.t 28, .t 34]),
    o1 6 (.copy 35)]))
  (.rg [o1 26 (.copy 7),
    o1 27 (.data (.bin .add) [.t 26, .c (.int .i64 (1))]),
    o1 7 (.copy 27)])))))))
 (.seq (.rg [o1 36 (.copy 6),
   o1 4 (.copy 36),
   o1 5 (.lit [.b] [.bool true])])
 .ret)))))
def s_sAnswerText : Sig := ⟨[.rd false [.d], .rd true [.d, .d, .sl (.own none) [.d, .d], .sl (.own none) [.d]]], (.tup [(false, 1), (false, 1)] [.d, .d])⟩
noncomputable def E_sAnswerText : TEnv := envOf [(120, p_sAnswerOk), (232, p_sl01Var), (306, p_sl09Flag), (302, p_sl09Edges), (301, p_sl09Byte)]
noncomputable def f_sAnswerText (n : Nat) : Int × (Int × Bool × List (Int × Int) × List (Int)) → Option ((ByteArray × Bool) × Unit) := runFn n E_sAnswerText c_sAnswerText [[.i .i64], [.i .i64, .b, .sl [.i .i64, .i .i64], .sl [.i .i64]]] [.s, .b] [] [4, 5] .no
noncomputable def g_sAnswerText := f_sAnswerText BIG
noncomputable def p_sAnswerText : TSp := ⟨s_sAnswerText, [[.i .i64], [.i .i64, .b, .sl [.i .i64, .i .i64], .sl [.i .i64]]], [.s, .b], [], Ou.j .no, g_sAnswerText⟩
theorem k_sAnswerText : chkW PG E_sAnswerText 202 s_sAnswerText (c_sAnswerText.ht 37) .no = some (c_sAnswerText.wc E_sAnswerText, [4, 5]) := by kernel_rfl
theorem ok_sAnswerText : p_sAnswerText.Ok PG 202 := mkOk (env_cons ok_sAnswerOk (env_cons ok_sl01Var (env_cons ok_sl09Flag (env_cons ok_sl09Edges (env_cons ok_sl09Byte (env_nil PG)))))) k_sAnswerText (by kernel_rfl)
theorem e_sAnswerText (n : Nat) (a0 : Int) (a1 : Int × Bool × List (Int × Int) × List (Int)) : f_sAnswerText n (a0, a1) =
  Option.bind (g_sAnswerOk (a0, a1)) fun r0 =>
  bif !r0.1 then
   some (((ByteArray.mk #[]), false), ())
  else Option.bind (g_sl01Var a1.1) fun r1 =>
  Option.bind (g_sl09Flag a1.2.1) fun r2 =>
  bif decide (r1.1.size + r2.1.size ≤ 4611686018427387904) then
   Option.bind (g_sl09Edges a1.2.2.1) fun r3 =>
   bif decide ((r1.1 ++ r2.1).size + r3.1.size ≤ 4611686018427387904) then
    Option.bind (loopT n (X := ByteArray × Int) (B := ByteArray) (fun self5 x4 =>
      bif decide (x4.2 < a0) then
       bnd a1.2.2.2.length x4.2 fun n6 =>
       Option.bind a1.2.2.2[n6]? fun y7 =>
       Option.bind (g_sl09Byte y7) fun r8 =>
       bif decide (x4.1.size + r8.1.size ≤ 4611686018427387904) then
        self5 (x4.1 ++ r8.1, IntKind.wrap .i64 (x4.2 + (1 : Int)))
       else none
      else some x4.1) ((r1.1 ++ r2.1) ++ r3.1, (0 : Int)) : Option (ByteArray)) fun x9 =>
    some ((x9, true), ())
   else none
  else none := by kernel_rfl
/- spec.l13BlankAsk -/
def c_sl13BlankAsk : TC :=
 (.seq (.rg [o1 1 (.a (.t 0)),
   o1 2 (.lit [.b] [.bool false])])
 (.seq (.rg [o1 3 (.load 1 [] 0 .nil 4 false),
   o1 4 (.build [.i .i64, .i .i64, .i .i64, .i .i64] []),
   o1 5 (.eqA [.i, .i, .i, .i] (.t 3) (.t 4) false),
   o1 2 (.copy 5)])
 .ret))
def s_sl13BlankAsk : Sig := ⟨[.rd true [.d, .d, .d, .d]], (.one false [.d])⟩
noncomputable def E_sl13BlankAsk : TEnv := envOf []
noncomputable def f_sl13BlankAsk (n : Nat) : (Int × Int × Int × Int) → Option ((Bool) × Unit) := runFn n E_sl13BlankAsk c_sl13BlankAsk [[.i .i64, .i .i64, .i .i64, .i .i64]] [.b] [] [2] .no
noncomputable def g_sl13BlankAsk := f_sl13BlankAsk BIG
noncomputable def p_sl13BlankAsk : TSp := ⟨s_sl13BlankAsk, [[.i .i64, .i .i64, .i .i64, .i .i64]], [.b], [], Ou.j .no, g_sl13BlankAsk⟩
theorem k_sl13BlankAsk : chkW PG E_sl13BlankAsk 233 s_sl13BlankAsk (c_sl13BlankAsk.ht 6) .no = some (c_sl13BlankAsk.wc E_sl13BlankAsk, [2]) := by kernel_rfl
theorem ok_sl13BlankAsk : p_sl13BlankAsk.Ok PG 233 := mkOk (env_nil PG) k_sl13BlankAsk (by kernel_rfl)
theorem e_sl13BlankAsk (n : Nat) (a0 : Int × Int × Int × Int) : f_sl13BlankAsk n a0 =
  some ((decide (a0.1 = (0 : Int)) && (decide (a0.2.1 = (0 : Int)) && (decide (a0.2.2.1 = (0 : Int)) && (decide (a0.2.2.2 = (0 : Int)) && true)))), ()) := by kernel_rfl
/- spec.OrderOk -/
def c_sOrderOk : TC :=
 (.seq (.rg [o1 3 (.a (.t 1)),
   o1 4 (.lit [.b] [.bool false])])
 (.seq (.seq (.join [⟨26, [.b], false⟩] 134217696 none (.rg [o1 5 (.copy 0),
   o3 6 163 [.t 5, .c [.i .i64] [.int .i64 (1)], .c [.i .i64] [.int .i64 (12)]],
   o1 7 (.data .not [.t 6]),
   o1 8 (.copy 7),
   o2 9 (.idx .nil) 3 false,
   o2 10 (.load 3 [] 0 (.t 9) 1 false) 3 false,
   ⟨false, [], [], .call 1 163 [.t 10, .c [.i .i64] [.int .i64 (1)], .c [.i .i64] [.int .i64 (100000)]] .no, [11], (some 11), some (3, false)⟩,
   o2 12 (.data .not [.t 11]) 3 false,
   ⟨false, [], [], .pick 8 (.c (.bool true)) (.t 12), [13], (some 13), none⟩,
   o1 14 (.copy 13),
   o2 15 (.idx .nil) 9 false,
   o2 16 (.load 3 [] 1 (.t 15) 1 false) 9 false,
   ⟨false, [], [], .call 1 163 [.t 16, .c [.i .i64] [.int .i64 (1)], .c [.i .i64] [.int .i64 (4)]] .no, [17], (some 17), some (9, false)⟩,
   o2 18 (.data .not [.t 17]) 9 false,
   ⟨false, [], [], .pick 14 (.c (.bool true)) (.t 18), [19], (some 19), none⟩,
   o1 20 (.copy 19),
   o2 21 (.copy 0) 15 false,
   o2 22 (.idx .nil) 15 false,
   o2 23 (.load 3 [] 2 (.t 22) 1 false) 15 false,
   ⟨false, [], [], .call 1 228 [.t 21, .t 23] .no, [24], (some 24), some (15, false)⟩,
   o2 25 (.data .not [.t 24]) 15 false,
   ⟨false, [], [], .pick 20 (.c (.bool true)) (.t 25), [26], (some 26), none⟩]))
 (.cond (.t 26)
  (.seq (.rg [o1 4 (.lit [.b] [.bool false])])
  .ret)
  .skip))
 (.seq (.seq (.rg [o1 27 (.idx .nil),
   o1 28 (.load 3 [] 1 (.t 27) 1 false)])
 (.block 0 (.seq (.rg [o1 30 (.data (.bin .eql) [.t 28, .c (.int .i64 (3))]),
   o1 29 (.copy 30)])
 (.cond (.t 29)
  (.seq (.join [⟨4, [.b], false⟩] 4395899027472 none (.rg [o1 31 (.idx .nil),
    o1 32 (.load 3 [] 2 (.t 31) 1 false),
    o1 33 (.len 32),
    o1 34 (.data (.bin .eql) [.t 33, .c (.int .i64 (0))]),
    o1 35 (.copy 34),
    o2 36 (.idx .nil) 4 true,
    o2 37 (.load 3 [] 3 (.t 36) 1 false) 4 true,
    o2 38 (.copy 0) 4 true,
    o2 39 (.data (.bin .sub) [.t 38, .c (.int .i64 (1))]) 4 true,
    ⟨false, [], [], .call 1 163 [.t 37, .c [.i .i64] [.int .i64 (0)], .t 39] .no, [40], (some 40), some (4, true)⟩,
    ⟨false, [], [], .pick 35 (.t 40) (.c (.bool false)), [41], (some 41), none⟩,
    o1 4 (.copy 41)]))
  .ret)
  (.seq (.rg [o1 43 (.data (.bin .eql) [.t 28, .c (.int .i64 (4))]),
    o1 42 (.copy 43)])
  (.cond (.t 42)
   (.seq (.join [⟨4, [.b], false⟩] 8989607068696592 none (.rg [o1 44 (.idx .nil),
     o1 45 (.load 3 [] 2 (.t 44) 1 false),
     o1 46 (.len 45),
     o1 47 (.data (.bin .gtr) [.t 46, .c (.int .i64 (0))]),
     o1 48 (.copy 47),
     o2 49 (.idx .nil) 4 true,
     o2 50 (.load 3 [] 3 (.t 49) 1 false) 4 true,
     o2 51 (.data (.bin .eql) [.t 50, .c (.int .i64 (0))]) 4 true,
     ⟨false, [], [], .pick 48 (.t 51) (.c (.bool false)), [52], (some 52), none⟩,
     o1 4 (.copy 52)]))
   .ret)
   .skip))))))
 (.seq (.join [⟨4, [.b], false⟩] 4602678819172646928 none (.rg [o1 53 (.idx .nil),
   o1 54 (.load 3 [] 2 (.t 53) 1 false),
   o1 55 (.len 54),
   o1 56 (.data (.bin .eql) [.t 55, .c (.int .i64 (1))]),
   o1 57 (.copy 56),
   o2 58 (.idx .nil) 4 true,
   o2 59 (.load 3 [] 3 (.t 58) 1 false) 4 true,
   o2 60 (.data (.bin .eql) [.t 59, .c (.int .i64 (0))]) 4 true,
   ⟨false, [], [], .pick 57 (.t 60) (.c (.bool false)), [61], (some 61), none⟩,
   o1 4 (.copy 61)]))
 .ret))))
def s_sOrderOk : Sig := ⟨[.rd false [.d], .rd true [.d, .d, .sl (.own none) [.d, .d], .d]], (.one false [.d])⟩
noncomputable def E_sOrderOk : TEnv := envOf [(163, p_sl01In), (228, p_sl05Edges)]
noncomputable def f_sOrderOk (n : Nat) : Int × (Int × Int × List (Int × Int) × Int) → Option ((Bool) × Unit) := runFn n E_sOrderOk c_sOrderOk [[.i .i64], [.i .i64, .i .i64, .sl [.i .i64, .i .i64], .i .i64]] [.b] [] [4] .no
noncomputable def g_sOrderOk := f_sOrderOk BIG
noncomputable def p_sOrderOk : TSp := ⟨s_sOrderOk, [[.i .i64], [.i .i64, .i .i64, .sl [.i .i64, .i .i64], .i .i64]], [.b], [], Ou.j .no, g_sOrderOk⟩
theorem k_sOrderOk : chkW PG E_sOrderOk 116 s_sOrderOk (c_sOrderOk.ht 62) .no = some (c_sOrderOk.wc E_sOrderOk, [4]) := by kernel_rfl
theorem ok_sOrderOk : p_sOrderOk.Ok PG 116 := mkOk (env_cons ok_sl01In (env_cons ok_sl05Edges (env_nil PG))) k_sOrderOk (by kernel_rfl)
theorem e_sOrderOk (n : Nat) (a0 : Int) (a1 : Int × Int × List (Int × Int) × Int) : f_sOrderOk n (a0, a1) =
  Option.bind (Option.bind (g_sl01In (a0, (1 : Int), (12 : Int))) fun r0 =>
   bif !r0.1 then
    some true
   else Option.bind (g_sl01In (a1.1, (1 : Int), (100000 : Int))) fun r1 =>
   bif !r1.1 then
    some true
   else Option.bind (g_sl01In (a1.2.1, (1 : Int), (4 : Int))) fun r2 =>
   bif !r2.1 then
    some true
   else Option.bind (g_sl05Edges (a0, a1.2.2.1)) fun r3 =>
   some !r3.1 : Option (Bool)) fun x4 =>
  bif x4 then
   some (false, ())
  else bif decide (a1.2.1 = (3 : Int)) then
   Option.bind (bif decide ((a1.2.2.1.length : Int) = (0 : Int)) then
     Option.bind (g_sl01In (a1.2.2.2, (0 : Int), IntKind.wrap .i64 (a0 - (1 : Int)))) fun r5 =>
     some r5.1
    else some false : Option (Bool)) fun x6 =>
   some (x6, ())
  else bif decide (a1.2.1 = (4 : Int)) then
   Option.bind (bif decide ((0 : Int) < (a1.2.2.1.length : Int)) then
     some (decide (a1.2.2.2 = (0 : Int)))
    else some false : Option (Bool)) fun x7 =>
   some (x7, ())
  else Option.bind (bif decide ((a1.2.2.1.length : Int) = (1 : Int)) then
    some (decide (a1.2.2.2 = (0 : Int)))
   else some false : Option (Bool)) fun x8 =>
  some (x8, ()) := by kernel_rfl
/- spec.OrderText -/
def c_sOrderText : TC :=
 (.seq (.rg [o1 3 (.a (.t 1)),
   o1 4 (.lit [.s] [.string ⟨#[]⟩]),
   o1 5 (.lit [.b] [.bool false])])
 (.seq (.seq (.rg [o1 6 (.copy 0),
   o1 7 (.load 3 [] 0 .nil 4 false),
   o3 8 116 [.t 6, .t 7],
   o1 9 (.data .not [.t 8])])
 (.cond (.t 9)
  (.seq (.rg [o1 4 (.lit [.s] [.string ⟨#[]⟩]),
    o1 5 (.lit [.b] [.bool false])])
  .ret)
  .skip))
 (.seq (.rg [o1 10 (.idx .nil),
   o1 11 (.load 3 [] 0 (.t 10) 1 false),
   o3 12 232 [.t 11],
   o1 13 (.idx .nil),
   o1 14 (.load 3 [] 1 (.t 13) 1 false),
   o3 15 301 [.t 14],
   o1 16 (.data (.bin .add) [.t 12, .t 15]),
   o1 17 (.idx .nil),
   o1 18 (.load 3 [] 3 (.t 17) 1 false),
   o3 19 232 [.t 18],
   o1 20 (.data (.bin .add) [.t 16, .t 19]),
   o1 21 (.idx .nil),
   o1 22 (.load 3 [] 2 (.t 21) 1 false),
   o3 23 302 [.t 22],
   o1 24 (.data (.bin .add) [.t 20, .t 23]),
   o1 4 (.copy 24),
   o1 5 (.lit [.b] [.bool true])])
 .ret)))
def s_sOrderText : Sig := ⟨[.rd false [.d], .rd true [.d, .d, .sl (.own none) [.d, .d], .d]], (.tup [(false, 1), (false, 1)] [.d, .d])⟩
noncomputable def E_sOrderText : TEnv := envOf [(116, p_sOrderOk), (232, p_sl01Var), (301, p_sl09Byte), (302, p_sl09Edges)]
noncomputable def f_sOrderText (n : Nat) : Int × (Int × Int × List (Int × Int) × Int) → Option ((ByteArray × Bool) × Unit) := runFn n E_sOrderText c_sOrderText [[.i .i64], [.i .i64, .i .i64, .sl [.i .i64, .i .i64], .i .i64]] [.s, .b] [] [4, 5] .no
noncomputable def g_sOrderText := f_sOrderText BIG
noncomputable def p_sOrderText : TSp := ⟨s_sOrderText, [[.i .i64], [.i .i64, .i .i64, .sl [.i .i64, .i .i64], .i .i64]], [.s, .b], [], Ou.j .no, g_sOrderText⟩
theorem k_sOrderText : chkW PG E_sOrderText 187 s_sOrderText (c_sOrderText.ht 25) .no = some (c_sOrderText.wc E_sOrderText, [4, 5]) := by kernel_rfl
theorem ok_sOrderText : p_sOrderText.Ok PG 187 := mkOk (env_cons ok_sOrderOk (env_cons ok_sl01Var (env_cons ok_sl09Byte (env_cons ok_sl09Edges (env_nil PG))))) k_sOrderText (by kernel_rfl)
theorem e_sOrderText (n : Nat) (a0 : Int) (a1 : Int × Int × List (Int × Int) × Int) : f_sOrderText n (a0, a1) =
  Option.bind (g_sOrderOk (a0, a1)) fun r0 =>
  bif !r0.1 then
   some (((ByteArray.mk #[]), false), ())
  else Option.bind (g_sl01Var a1.1) fun r1 =>
  Option.bind (g_sl09Byte a1.2.1) fun r2 =>
  bif decide (r1.1.size + r2.1.size ≤ 4611686018427387904) then
   Option.bind (g_sl01Var a1.2.2.2) fun r3 =>
   bif decide ((r1.1 ++ r2.1).size + r3.1.size ≤ 4611686018427387904) then
    Option.bind (g_sl09Edges a1.2.2.1) fun r4 =>
    bif decide (((r1.1 ++ r2.1) ++ r3.1).size + r4.1.size ≤ 4611686018427387904) then
     some ((((r1.1 ++ r2.1) ++ r3.1) ++ r4.1, true), ())
    else none
   else none
  else none := by kernel_rfl
/- spec.RecText -/
def c_sRecText : TC :=
 (.seq (.rg [o1 3 (.a (.t 1)),
   o1 4 (.lit [.s] [.string ⟨#[]⟩]),
   o1 5 (.lit [.b] [.bool false])])
 (.seq (.seq (.rg [o1 11 (.idx .nil),
   o1 12 (.load 3 [] 0 (.t 11) 1 false)])
 (.block 0 (.seq (.rg [o1 14 (.data (.bin .eql) [.t 12, .c (.int .i64 (1))]),
   o1 13 (.copy 14)])
 (.cond (.t 13)
  (.seq (.rg [o1 15 (.idx .nil),
    o1 16 (.load 3 [] 1 (.t 15) 4 false),
    ⟨false, [], [], .det 2 (.a (.c [.i .i64, .i .i64, .i .i64, .i .i64] [.int .i64 (0), .int .i64 (0), .int .i64 (0), .int .i64 (0)])), [6, 1000000001], (some 6), none⟩,
    o4 1 [6] (.store 6 [] 0 .nil (.t 16))])
  (.seq (.seq (.join [⟨55, [.b], false⟩] 72057594037796864 none (.rg [o1 17 (.idx .nil),
    o1 18 (.load 3 [] 5 (.t 17) 1 false),
    o1 19 (.data (.bin .neq) [.t 18, .c (.int .i64 (0))]),
    o1 20 (.copy 19),
    o2 21 (.idx .nil) 3 false,
    o2 22 (.load 3 [] 6 (.t 21) 4 false) 3 false,
    ⟨false, [], [], .call 1 230 [.t 22] .no, [23], (some 23), some (3, false)⟩,
    o2 24 (.data .not [.t 23]) 3 false,
    ⟨false, [], [], .pick 20 (.c (.bool true)) (.t 24), [25], (some 25), none⟩,
    o1 26 (.copy 25),
    o2 27 (.idx .nil) 9 false,
    o2 28 (.load 3 [] 10 (.t 27) 4 false) 9 false,
    ⟨false, [], [], .call 1 231 [.t 28] .no, [29], (some 29), some (9, false)⟩,
    o2 30 (.data .not [.t 29]) 9 false,
    ⟨false, [], [], .pick 26 (.c (.bool true)) (.t 30), [31], (some 31), none⟩,
    o1 32 (.copy 31),
    o2 33 (.idx .nil) 15 false,
    o2 34 (.load 6 [] 0 (.t 33) 1 false) 15 false,
    ⟨false, [], [], .call 1 163 [.t 34, .c [.i .i64] [.int .i64 (0)], .c [.i .i64] [.int .i64 (100000)]] .no, [35], (some 35), some (15, false)⟩,
    o2 36 (.data .not [.t 35]) 15 false,
    ⟨false, [], [], .pick 32 (.c (.bool true)) (.t 36), [37], (some 37), none⟩,
    o1 38 (.copy 37),
    o2 39 (.idx .nil) 21 false,
    o2 40 (.load 6 [] 1 (.t 39) 1 false) 21 false,
    ⟨false, [], [], .call 1 163 [.t 40, .c [.i .i64] [.int .i64 (0)], .c [.i .i64] [.int .i64 (100000)]] .no, [41], (some 41), some (21, false)⟩,
    o2 42 (.data .not [.t 41]) 21 false,
    ⟨false, [], [], .pick 38 (.c (.bool true)) (.t 42), [43], (some 43), none⟩,
    o1 44 (.copy 43),
    o2 45 (.idx .nil) 27 false,
    o2 46 (.load 6 [] 2 (.t 45) 1 false) 27 false,
    ⟨false, [], [], .call 1 163 [.t 46, .c [.i .i64] [.int .i64 (0)], .c [.i .i64] [.int .i64 (100000)]] .no, [47], (some 47), some (27, false)⟩,
    o2 48 (.data .not [.t 47]) 27 false,
    ⟨false, [], [], .pick 44 (.c (.bool true)) (.t 48), [49], (some 49), none⟩,
    o1 50 (.copy 49),
    o2 51 (.idx .nil) 33 false,
    o2 52 (.load 6 [] 3 (.t 51) 1 false) 33 false,
    ⟨false, [], [], .call 1 163 [.t 52, .c [.i .i64] [.int .i64 (0)], .c [.i .i64] [.int .i64 (100000)]] .no, [53], (some 53), some (33, false)⟩,
    o2 54 (.data .not [.t 53]) 33 false,
    ⟨false, [], [], .pick 50 (.c (.bool true)) (.t 54), [55], (some 55), none⟩]))
  (.cond (.t 55)
   (.seq (.rg [o1 4 (.lit [.s] [.string ⟨#[]⟩]),
     o1 5 (.lit [.b] [.bool false])])
   .ret)
   .skip))
  (.seq (.rg [o1 56 (.idx .nil),
    o1 57 (.load 6 [] 0 (.t 56) 1 false),
    o3 58 232 [.t 57],
    o1 59 (.data (.bin .add) [.c (.string ⟨#[1]⟩), .t 58]),
    o1 60 (.idx .nil),
    o1 61 (.load 6 [] 1 (.t 60) 1 false),
    o3 62 232 [.t 61],
    o1 63 (.data (.bin .add) [.t 59, .t 62]),
    o1 64 (.idx .nil),
    o1 65 (.load 6 [] 2 (.t 64) 1 false),
    o3 66 232 [.t 65],
    o1 67 (.data (.bin .add) [.t 63, .t 66]),
    o1 68 (.idx .nil),
    o1 69 (.load 6 [] 3 (.t 68) 1 false),
    o3 70 232 [.t 69],
    o1 71 (.data (.bin .add) [.t 67, .t 70]),
    o1 4 (.copy 71),
    o1 5 (.lit [.b] [.bool true])])
  .ret)))
  (.seq (.rg [o1 73 (.data (.bin .eql) [.t 12, .c (.int .i64 (2))]),
    o1 72 (.copy 73)])
  (.cond (.t 72)
   (.seq (.rg [o1 75 (.copy 0),
     o1 76 (.idx .nil),
     o1 77 (.load 3 [] 6 (.t 76) 4 false),
     o3 78 202 [.t 75, .t 77],
     ⟨false, [], [], .det 2 (.copy 78), [74, 78], (some 74), none⟩,
     o1 79 (.ext 74 0 1),
     o1 80 (.ext 74 1 1),
     o1 7 (.copy 79),
     o1 8 (.copy 80)])
   (.seq (.seq (.join [⟨100, [.b], false⟩] 2535298782604819573735056998400 none (.rg [o1 81 (.copy 8),
     o1 82 (.data .not [.t 81]),
     o1 83 (.copy 82),
     o2 84 (.idx .nil) 2 false,
     o2 85 (.load 3 [] 1 (.t 84) 4 false) 2 false,
     ⟨false, [], [], .call 1 233 [.t 85] .no, [86], (some 86), some (2, false)⟩,
     o2 87 (.data .not [.t 86]) 2 false,
     ⟨false, [], [], .pick 83 (.c (.bool true)) (.t 87), [88], (some 88), none⟩,
     o1 89 (.copy 88),
     o2 90 (.idx .nil) 8 false,
     o2 91 (.load 3 [] 10 (.t 90) 4 false) 8 false,
     ⟨false, [], [], .call 1 231 [.t 91] .no, [92], (some 92), some (8, false)⟩,
     o2 93 (.data .not [.t 92]) 8 false,
     ⟨false, [], [], .pick 89 (.c (.bool true)) (.t 93), [94], (some 94), none⟩,
     o1 95 (.copy 94),
     o2 96 (.idx .nil) 14 false,
     o2 97 (.load 3 [] 5 (.t 96) 1 false) 14 false,
     ⟨false, [], [], .call 1 163 [.t 97, .c [.i .i64] [.int .i64 (0)], .c [.i .i64] [.int .i64 (100000)]] .no, [98], (some 98), some (14, false)⟩,
     o2 99 (.data .not [.t 98]) 14 false,
     ⟨false, [], [], .pick 95 (.c (.bool true)) (.t 99), [100], (some 100), none⟩]))
   (.cond (.t 100)
    (.seq (.rg [o1 4 (.lit [.s] [.string ⟨#[]⟩]),
      o1 5 (.lit [.b] [.bool false])])
    .ret)
    .skip))
   (.seq (.rg [o1 101 (.idx .nil),
     o1 102 (.load 3 [] 5 (.t 101) 1 false),
     o3 103 232 [.t 102],
     o1 104 (.data (.bin .add) [.c (.string ⟨#[2]⟩), .t 103]),
     o1 105 (.copy 7),
     o1 106 (.data .slen [.t 105]),
     o3 107 232 [.t 106],
     o1 108 (.data (.bin .add) [.t 104, .t 107]),
     o1 109 (.copy 7),
     o1 110 (.data (.bin .add) [.t 108, .t 109]),
     o1 4 (.copy 110),
     o1 5 (.lit [.b] [.bool true])])
   .ret)))
   (.seq (.rg [o1 112 (.data (.bin .eql) [.t 12, .c (.int .i64 (3))]),
     o1 111 (.copy 112)])
   (.cond (.t 111)
    (.seq (.rg [o1 114 (.copy 0),
      o1 115 (.idx .nil),
      o1 116 (.load 3 [] 10 (.t 115) 4 false),
      o3 117 187 [.t 114, .t 116],
      ⟨false, [], [], .det 2 (.copy 117), [113, 117], (some 113), none⟩,
      o1 118 (.ext 113 0 1),
      o1 119 (.ext 113 1 1),
      o1 9 (.copy 118),
      o1 10 (.copy 119)])
    (.seq (.seq (.join [⟨138, [.b], false⟩] 696896958226086188257118292213201016717312 none (.rg [o1 120 (.copy 10),
      o1 121 (.data .not [.t 120]),
      o1 122 (.copy 121),
      o2 123 (.idx .nil) 2 false,
      o2 124 (.load 3 [] 1 (.t 123) 4 false) 2 false,
      ⟨false, [], [], .call 1 233 [.t 124] .no, [125], (some 125), some (2, false)⟩,
      o2 126 (.data .not [.t 125]) 2 false,
      ⟨false, [], [], .pick 122 (.c (.bool true)) (.t 126), [127], (some 127), none⟩,
      o1 128 (.copy 127),
      o2 129 (.idx .nil) 8 false,
      o2 130 (.load 3 [] 6 (.t 129) 4 false) 8 false,
      ⟨false, [], [], .call 1 230 [.t 130] .no, [131], (some 131), some (8, false)⟩,
      o2 132 (.data .not [.t 131]) 8 false,
      ⟨false, [], [], .pick 128 (.c (.bool true)) (.t 132), [133], (some 133), none⟩,
      o1 134 (.copy 133),
      o2 135 (.idx .nil) 14 false,
      o2 136 (.load 3 [] 5 (.t 135) 1 false) 14 false,
      o2 137 (.data (.bin .neq) [.t 136, .c (.int .i64 (0))]) 14 false,
      ⟨false, [], [], .pick 134 (.c (.bool true)) (.t 137), [138], (some 138), none⟩]))
    (.cond (.t 138)
     (.seq (.rg [o1 4 (.lit [.s] [.string ⟨#[]⟩]),
       o1 5 (.lit [.b] [.bool false])])
     .ret)
     .skip))
    (.seq (.rg [o1 139 (.copy 9),
      o1 140 (.data .slen [.t 139]),
      o3 141 232 [.t 140],
      o1 142 (.data (.bin .add) [.c (.string ⟨#[3]⟩), .t 141]),
      o1 143 (.copy 9),
      o1 144 (.data (.bin .add) [.t 142, .t 143]),
      o1 4 (.copy 144),
      o1 5 (.lit [.b] [.bool true])])
    .ret)))
    .skip))))))))
 (.seq (.rg [o1 4 (.lit [.s] [.string ⟨#[]⟩]),
   o1 5 (.lit [.b] [.bool false])])
 .ret)))
def s_sRecText : Sig := ⟨[.rd false [.d], .rd true [.d, .d, .d, .d, .d, .d, .d, .d, .sl (.own none) [.d, .d], .sl (.own none) [.d], .d, .d, .sl (.own none) [.d, .d], .d]], (.tup [(false, 1), (false, 1)] [.d, .d])⟩
noncomputable def E_sRecText : TEnv := envOf [(230, p_sl10Blank), (231, p_sl13BlankOrder), (163, p_sl01In), (232, p_sl01Var), (202, p_sAnswerText), (233, p_sl13BlankAsk), (187, p_sOrderText)]
noncomputable def f_sRecText (n : Nat) : Int × (Int × Int × Int × Int × Int × Int × Int × Bool × List (Int × Int) × List (Int) × Int × Int × List (Int × Int) × Int) → Option ((ByteArray × Bool) × Unit) := runFn n E_sRecText c_sRecText [[.i .i64], [.i .i64, .i .i64, .i .i64, .i .i64, .i .i64, .i .i64, .i .i64, .b, .sl [.i .i64, .i .i64], .sl [.i .i64], .i .i64, .i .i64, .sl [.i .i64, .i .i64], .i .i64]] [.s, .b] [] [4, 5] .no
noncomputable def g_sRecText := f_sRecText BIG
noncomputable def p_sRecText : TSp := ⟨s_sRecText, [[.i .i64], [.i .i64, .i .i64, .i .i64, .i .i64, .i .i64, .i .i64, .i .i64, .b, .sl [.i .i64, .i .i64], .sl [.i .i64], .i .i64, .i .i64, .sl [.i .i64, .i .i64], .i .i64]], [.s, .b], [], Ou.j .no, g_sRecText⟩
theorem k_sRecText : chkW PG E_sRecText 99 s_sRecText (c_sRecText.ht 145) .no = some (c_sRecText.wc E_sRecText, [4, 5]) := by kernel_rfl
theorem ok_sRecText : p_sRecText.Ok PG 99 := mkOk (env_cons ok_sl10Blank (env_cons ok_sl13BlankOrder (env_cons ok_sl01In (env_cons ok_sl01Var (env_cons ok_sAnswerText (env_cons ok_sl13BlankAsk (env_cons ok_sOrderText (env_nil PG)))))))) k_sRecText (by kernel_rfl)
theorem e_sRecText (n : Nat) (a0 : Int) (a1 : Int × Int × Int × Int × Int × Int × Int × Bool × List (Int × Int) × List (Int) × Int × Int × List (Int × Int) × Int) : f_sRecText n (a0, a1) =
  bif decide (a1.1 = (1 : Int)) then
   Option.bind (bif !decide (a1.2.2.2.2.2.1 = (0 : Int)) then
     some true
    else Option.bind (g_sl10Blank (a1.2.2.2.2.2.2.1, a1.2.2.2.2.2.2.2.1, a1.2.2.2.2.2.2.2.2.1, a1.2.2.2.2.2.2.2.2.2.1)) fun r0 =>
    bif !r0.1 then
     some true
    else Option.bind (g_sl13BlankOrder a1.2.2.2.2.2.2.2.2.2.2) fun r1 =>
    bif !r1.1 then
     some true
    else Option.bind (g_sl01In (a1.2.1, (0 : Int), (100000 : Int))) fun r2 =>
    bif !r2.1 then
     some true
    else Option.bind (g_sl01In (a1.2.2.1, (0 : Int), (100000 : Int))) fun r3 =>
    bif !r3.1 then
     some true
    else Option.bind (g_sl01In (a1.2.2.2.1, (0 : Int), (100000 : Int))) fun r4 =>
    bif !r4.1 then
     some true
    else Option.bind (g_sl01In (a1.2.2.2.2.1, (0 : Int), (100000 : Int))) fun r5 =>
    some !r5.1 : Option (Bool)) fun x6 =>
   bif x6 then
    some (((ByteArray.mk #[]), false), ())
   else Option.bind (g_sl01Var a1.2.1) fun r7 =>
   bif decide ((ByteArray.mk #[1]).size + r7.1.size ≤ 4611686018427387904) then
    Option.bind (g_sl01Var a1.2.2.1) fun r8 =>
    bif decide (((ByteArray.mk #[1]) ++ r7.1).size + r8.1.size ≤ 4611686018427387904) then
     Option.bind (g_sl01Var a1.2.2.2.1) fun r9 =>
     bif decide ((((ByteArray.mk #[1]) ++ r7.1) ++ r8.1).size + r9.1.size ≤ 4611686018427387904) then
      Option.bind (g_sl01Var a1.2.2.2.2.1) fun r10 =>
      bif decide (((((ByteArray.mk #[1]) ++ r7.1) ++ r8.1) ++ r9.1).size + r10.1.size ≤ 4611686018427387904) then
       some ((((((ByteArray.mk #[1]) ++ r7.1) ++ r8.1) ++ r9.1) ++ r10.1, true), ())
      else none
     else none
    else none
   else none
  else bif decide (a1.1 = (2 : Int)) then
   Option.bind (g_sAnswerText (a0, (a1.2.2.2.2.2.2.1, a1.2.2.2.2.2.2.2.1, a1.2.2.2.2.2.2.2.2.1, a1.2.2.2.2.2.2.2.2.2.1))) fun r11 =>
   Option.bind (bif !r11.1.2 then
     some true
    else Option.bind (g_sl13BlankAsk (a1.2.1, a1.2.2.1, a1.2.2.2.1, a1.2.2.2.2.1)) fun r12 =>
    bif !r12.1 then
     some true
    else Option.bind (g_sl13BlankOrder a1.2.2.2.2.2.2.2.2.2.2) fun r13 =>
    bif !r13.1 then
     some true
    else Option.bind (g_sl01In (a1.2.2.2.2.2.1, (0 : Int), (100000 : Int))) fun r14 =>
    some !r14.1 : Option (Bool)) fun x15 =>
   bif x15 then
    some (((ByteArray.mk #[]), false), ())
   else Option.bind (g_sl01Var a1.2.2.2.2.2.1) fun r16 =>
   bif decide ((ByteArray.mk #[2]).size + r16.1.size ≤ 4611686018427387904) then
    Option.bind (g_sl01Var (r11.1.1.size : Int)) fun r17 =>
    bif decide (((ByteArray.mk #[2]) ++ r16.1).size + r17.1.size ≤ 4611686018427387904) then
     bif decide ((((ByteArray.mk #[2]) ++ r16.1) ++ r17.1).size + r11.1.1.size ≤ 4611686018427387904) then
      some (((((ByteArray.mk #[2]) ++ r16.1) ++ r17.1) ++ r11.1.1, true), ())
     else none
    else none
   else none
  else bif decide (a1.1 = (3 : Int)) then
   Option.bind (g_sOrderText (a0, a1.2.2.2.2.2.2.2.2.2.2)) fun r18 =>
   Option.bind (bif !r18.1.2 then
     some true
    else Option.bind (g_sl13BlankAsk (a1.2.1, a1.2.2.1, a1.2.2.2.1, a1.2.2.2.2.1)) fun r19 =>
    bif !r19.1 then
     some true
    else Option.bind (g_sl10Blank (a1.2.2.2.2.2.2.1, a1.2.2.2.2.2.2.2.1, a1.2.2.2.2.2.2.2.2.1, a1.2.2.2.2.2.2.2.2.2.1)) fun r20 =>
    bif !r20.1 then
     some true
    else some (!decide (a1.2.2.2.2.2.1 = (0 : Int))) : Option (Bool)) fun x21 =>
   bif x21 then
    some (((ByteArray.mk #[]), false), ())
   else Option.bind (g_sl01Var (r18.1.1.size : Int)) fun r22 =>
   bif decide ((ByteArray.mk #[3]).size + r22.1.size ≤ 4611686018427387904) then
    bif decide (((ByteArray.mk #[3]) ++ r22.1).size + r18.1.1.size ≤ 4611686018427387904) then
     some ((((ByteArray.mk #[3]) ++ r22.1) ++ r18.1.1, true), ())
    else none
   else none
  else some (((ByteArray.mk #[]), false), ()) := by kernel_rfl
/- spec.SumMore -/
def c_sSumMore : TC :=
 (.seq (.rg [o1 4 (.lit [.i .u32] [.int .u32 (0)])])
 (.seq (.join [⟨0, [.i .u32], false⟩] 4294967265 none (.seq (.rg [o1 5 (.lit [.i .i64] [.int .i64 (0)])])
 (.block 0 (.loop [⟨0, [.i .u32], false⟩, ⟨5, [.i .i64], false⟩] 4294967265
  (.seq (.seq (.rg [o1 8 (.copy 5),
    o1 9 (.copy 1),
    o1 10 (.data .slen [.t 9]),
    o1 11 (.data (.bin .lss) [.t 8, .t 10])])
  (.cond (.t 11)
   .skip
   (.exit 0)))
  (.seq (.join [⟨0, [.i .u32], false⟩] 4294951105 none (.block 1 (.seq (.rg [o1 14 (.copy 0),
    o1 15 (.copy 1),
    o1 16 (.copy 5),
    o1 17 (.data .sidx [.t 15, .t 16]),
    o1 18 (.data (.conv .u32) [.t 17]),
    o1 19 (.data (.bin .xor) [.t 14, .t 18]),
    o1 0 (.copy 19)])
  (.seq (.rg [o1 6 (.lit [.i .i64] [.int .i64 (0)])])
  (.block 2 (.loop [⟨0, [.i .u32], false⟩, ⟨6, [.i .i64], false⟩] 4293918913
   (.seq (.seq (.rg [o1 20 (.copy 6),
     o1 21 (.data (.bin .lss) [.t 20, .c (.int .i64 (8))])])
   (.cond (.t 21)
    .skip
    (.exit 2)))
   (.seq (.join [⟨0, [.i .u32], false⟩] 4278190209 none (.block 3 (.seq (.rg [o1 24 (.copy 0),
     o1 25 (.data (.bin .rem) [.t 24, .c (.int .u32 (2))]),
     o1 26 (.data (.bin .eql) [.t 25, .c (.int .u32 (1))]),
     o1 7 (.copy 26)])
   (.seq (.rg [o1 27 (.copy 0),
     o1 28 (.data (.bin .quo) [.t 27, .c (.int .u32 (2))]),
     o1 0 (.copy 28)])
   (.seq (.rg [o1 29 (.copy 7)])
   (.cond (.t 29)
    (.rg [o1 30 (.copy 0),
      o1 31 (.data (.bin .xor) [.t 30, .c (.int .u32 (3558460437))]),
      o1 0 (.copy 31)])
    .skip))))))
   (.rg [o1 22 (.copy 6),
     o1 23 (.data (.bin .add) [.t 22, .c (.int .i64 (1))]),
     o1 6 (.copy 23)])))))))))
  (.rg [o1 12 (.copy 5),
    o1 13 (.data (.bin .add) [.t 12, .c (.int .i64 (1))]),
    o1 5 (.copy 13)])))))))
 (.seq (.rg [o1 32 (.copy 0),
   o1 4 (.copy 32)])
 .ret)))
def s_sSumMore : Sig := ⟨[.rd false [.d], .rd false [.d]], (.one false [.d])⟩
noncomputable def E_sSumMore : TEnv := envOf []
noncomputable def f_sSumMore (n : Nat) : Int × ByteArray → Option ((Int) × Unit) := runFn n E_sSumMore c_sSumMore [[.i .u32], [.s]] [.i .u32] [] [4] .no
noncomputable def g_sSumMore := f_sSumMore BIG
noncomputable def p_sSumMore : TSp := ⟨s_sSumMore, [[.i .u32], [.s]], [.i .u32], [], Ou.j .no, g_sSumMore⟩
theorem k_sSumMore : chkW PG E_sSumMore 356 s_sSumMore (c_sSumMore.ht 33) .no = some (c_sSumMore.wc E_sSumMore, [4]) := by kernel_rfl
theorem ok_sSumMore : p_sSumMore.Ok PG 356 := mkOk (env_nil PG) k_sSumMore (by kernel_rfl)
theorem e_sSumMore (n : Nat) (a0 : Int) (a1 : ByteArray) : f_sSumMore n (a0, a1) =
  Option.bind (loopT n (X := Int × Int) (B := Int) (fun self1 x0 =>
    bif decide (x0.2 < (a1.size : Int)) then
     Option.bind (bnd a1.size x0.2 fun n2 => Option.bind a1[n2]? fun b3 =>
      loopT n (X := Int × Int) (B := Int) (fun self5 x4 =>
       bif decide (x4.2 < (8 : Int)) then
        Option.bind (bif decide ((2 : Int) = 0) then
          none
         else bif decide ((2 : Int) = 0) then
          none
         else bif decide ((Int.tmod x4.1 (2 : Int)) = (1 : Int)) then
          some (bits .xor .u32 (IntKind.wrap .u32 (Int.tdiv x4.1 (2 : Int))) (3558460437 : Int))
         else some (IntKind.wrap .u32 (Int.tdiv x4.1 (2 : Int))) : Option (Int)) fun x6 =>
        self5 (x6, IntKind.wrap .i64 (x4.2 + (1 : Int)))
       else some x4.1) (bits .xor .u32 x0.1 (IntKind.wrap .u32 ((b3.toNat : Int))), (0 : Int)) : Option (Int)) fun x7 =>
     self1 (x7, IntKind.wrap .i64 (x0.2 + (1 : Int)))
    else some x0.1) (a0, (0 : Int)) : Option (Int)) fun x8 =>
  some (x8, ()) := by kernel_rfl
/- spec.SumOf -/
def c_sSumOf : TC :=
 (.seq (.rg [o1 2 (.lit [.i .u32] [.int .u32 (0)])])
 (.seq (.rg [o1 3 (.copy 0),
   o3 4 356 [.c [.i .u32] [.int .u32 (4294967295)], .t 3],
   o1 2 (.copy 4)])
 .ret))
def s_sSumOf : Sig := ⟨[.rd false [.d]], (.one false [.d])⟩
noncomputable def E_sSumOf : TEnv := envOf [(356, p_sSumMore)]
noncomputable def f_sSumOf (n : Nat) : ByteArray → Option ((Int) × Unit) := runFn n E_sSumOf c_sSumOf [[.s]] [.i .u32] [] [2] .no
noncomputable def g_sSumOf := f_sSumOf BIG
noncomputable def p_sSumOf : TSp := ⟨s_sSumOf, [[.s]], [.i .u32], [], Ou.j .no, g_sSumOf⟩
theorem k_sSumOf : chkW PG E_sSumOf 342 s_sSumOf (c_sSumOf.ht 5) .no = some (c_sSumOf.wc E_sSumOf, [2]) := by kernel_rfl
theorem ok_sSumOf : p_sSumOf.Ok PG 342 := mkOk (env_cons ok_sSumMore (env_nil PG)) k_sSumOf (by kernel_rfl)
theorem e_sSumOf (n : Nat) (a0 : ByteArray) : f_sSumOf n a0 =
  Option.bind (g_sSumMore ((4294967295 : Int), a0)) fun r0 =>
  some (r0.1, ()) := by kernel_rfl
/- spec.l02Four -/
def c_sl02Four : TC :=
 (.seq (.rg [o1 2 (.lit [.s] [.string ⟨#[]⟩])])
 (.seq (.rg [o1 3 (.copy 0),
   o1 4 (.data (.bin .shr) [.t 3, .c (.int .u64 (24))]),
   o1 5 (.data (.conv .u8) [.t 4]),
   o1 6 (.copy 0),
   o1 7 (.data (.bin .shr) [.t 6, .c (.int .u64 (16))]),
   o1 8 (.data (.conv .u8) [.t 7]),
   o1 9 (.copy 0),
   o1 10 (.data (.bin .shr) [.t 9, .c (.int .u64 (8))]),
   o1 11 (.data (.conv .u8) [.t 10]),
   o1 12 (.copy 0),
   o1 13 (.data (.conv .u8) [.t 12]),
   o1 14 (.sli [.i .u8] [.t 5, .t 8, .t 11, .t 13]),
   o1 15 (.bytes 14),
   o1 2 (.copy 15)])
 .ret))
def s_sl02Four : Sig := ⟨[.rd false [.d]], (.one false [.d])⟩
noncomputable def E_sl02Four : TEnv := envOf []
noncomputable def f_sl02Four (n : Nat) : Int → Option ((ByteArray) × Unit) := runFn n E_sl02Four c_sl02Four [[.i .u32]] [.s] [] [2] .no
noncomputable def g_sl02Four := f_sl02Four BIG
noncomputable def p_sl02Four : TSp := ⟨s_sl02Four, [[.i .u32]], [.s], [], Ou.j .no, g_sl02Four⟩
theorem k_sl02Four : chkW PG E_sl02Four 341 s_sl02Four (c_sl02Four.ht 16) .no = some (c_sl02Four.wc E_sl02Four, [2]) := by kernel_rfl
theorem ok_sl02Four : p_sl02Four.Ok PG 341 := mkOk (env_nil PG) k_sl02Four (by kernel_rfl)
theorem e_sl02Four (n : Nat) (a0 : Int) : f_sl02Four n a0 =
  bif decide ((24 : Int) < 0) then
   none
  else bif decide ((16 : Int) < 0) then
   none
  else bif decide ((8 : Int) < 0) then
   none
  else some (bytesStr ([IntKind.wrap .u8 (Int.fdiv a0 (2 ^ (Nat.min (Int.toNat (24 : Int)) (IntKind.bits .u32)))), IntKind.wrap .u8 (Int.fdiv a0 (2 ^ (Nat.min (Int.toNat (16 : Int)) (IntKind.bits .u32)))), IntKind.wrap .u8 (Int.fdiv a0 (2 ^ (Nat.min (Int.toNat (8 : Int)) (IntKind.bits .u32)))), IntKind.wrap .u8 (a0)]), ()) := by kernel_rfl
/- spec.Frame -/
def c_sFrame : TC :=
 (.seq (.rg [o1 2 (.lit [.s] [.string ⟨#[]⟩]),
   o1 3 (.lit [.b] [.bool false])])
 (.seq (.seq (.rg [o1 4 (.copy 0),
   o1 5 (.data .slen [.t 4]),
   o3 6 163 [.t 5, .c [.i .i64] [.int .i64 (1)], .c [.i .i64] [.int .i64 (9000)]],
   o1 7 (.data .not [.t 6])])
 (.cond (.t 7)
  (.seq (.rg [o1 2 (.lit [.s] [.string ⟨#[]⟩]),
    o1 3 (.lit [.b] [.bool false])])
  .ret)
  .skip))
 (.seq (.rg [o1 8 (.copy 0),
   o1 9 (.data .slen [.t 8]),
   o3 10 232 [.t 9],
   o1 11 (.copy 0),
   o3 12 342 [.t 11],
   o3 13 341 [.t 12],
   o1 14 (.data (.bin .add) [.t 10, .t 13]),
   o1 15 (.copy 0),
   o1 16 (.data (.bin .add) [.t 14, .t 15]),
   o1 2 (.copy 16),
   o1 3 (.lit [.b] [.bool true])])
 .ret)))
def s_sFrame : Sig := ⟨[.rd false [.d]], (.tup [(false, 1), (false, 1)] [.d, .d])⟩
noncomputable def E_sFrame : TEnv := envOf [(163, p_sl01In), (232, p_sl01Var), (342, p_sSumOf), (341, p_sl02Four)]
noncomputable def f_sFrame (n : Nat) : ByteArray → Option ((ByteArray × Bool) × Unit) := runFn n E_sFrame c_sFrame [[.s]] [.s, .b] [] [2, 3] .no
noncomputable def g_sFrame := f_sFrame BIG
noncomputable def p_sFrame : TSp := ⟨s_sFrame, [[.s]], [.s, .b], [], Ou.j .no, g_sFrame⟩
theorem k_sFrame : chkW PG E_sFrame 282 s_sFrame (c_sFrame.ht 17) .no = some (c_sFrame.wc E_sFrame, [2, 3]) := by kernel_rfl
theorem ok_sFrame : p_sFrame.Ok PG 282 := mkOk (env_cons ok_sl01In (env_cons ok_sl01Var (env_cons ok_sSumOf (env_cons ok_sl02Four (env_nil PG))))) k_sFrame (by kernel_rfl)
theorem e_sFrame (n : Nat) (a0 : ByteArray) : f_sFrame n a0 =
  Option.bind (g_sl01In ((a0.size : Int), (1 : Int), (9000 : Int))) fun r0 =>
  bif !r0.1 then
   some (((ByteArray.mk #[]), false), ())
  else Option.bind (g_sl01Var (a0.size : Int)) fun r1 =>
  Option.bind (g_sSumOf a0) fun r2 =>
  Option.bind (g_sl02Four r2.1) fun r3 =>
  bif decide (r1.1.size + r3.1.size ≤ 4611686018427387904) then
   bif decide ((r1.1 ++ r3.1).size + a0.size ≤ 4611686018427387904) then
    some (((r1.1 ++ r3.1) ++ a0, true), ())
   else none
  else none := by kernel_rfl
/- spec.LogActs -/
def c_sLogActs : TC :=
 (.seq (.rg [o1 3 (.a (.t 0)),
   o1 5 (.a (.t 2)),
   o1 6 (.lit [.sl [.i .i64, .s, .s, .s]] [.slice none 0 0]),
   o1 7 (.lit [.b] [.bool false])])
 (.seq (.rg [o1 13 (.copy 1),
   o1 14 (.load 5 [] 0 .nil 14 false),
   o3 15 99 [.t 13, .t 14],
   ⟨false, [], [], .det 2 (.copy 15), [12, 15], (some 12), none⟩,
   o1 16 (.ext 12 0 1),
   o1 17 (.ext 12 1 1),
   o1 8 (.copy 16),
   o1 9 (.copy 17)])
 (.seq (.seq (.rg [o1 18 (.copy 9),
   o1 19 (.data .not [.t 18])])
 (.cond (.t 19)
  (.seq (.rg [o1 20 (.sli [.i .i64, .s, .s, .s] []),
    ⟨false, [], [], .det 2 (.copy 20), [6, 20], (some 6), none⟩,
    o1 7 (.lit [.b] [.bool false])])
  .ret)
  .skip))
 (.seq (.rg [o1 22 (.copy 8),
   o3 23 282 [.t 22],
   ⟨false, [], [], .det 2 (.copy 23), [21, 23], (some 21), none⟩,
   o1 24 (.ext 21 0 1),
   o1 25 (.ext 21 1 1),
   o1 10 (.copy 24),
   o1 11 (.copy 25)])
 (.seq (.rg [o1 26 (.copy 10),
   ⟨false, [], [], .det 3 (.build [.i .i64, .s, .s, .s] [(0, .c [.i .i64] [.int .i64 (1)]), (1, .c [.s] [.string ⟨#[108, 111, 103]⟩]), (2, .t 26)]), [27, 1000000001, 1000000002], (some 27), none⟩,
   ⟨false, [], [], .det 3 (.build [.i .i64, .s, .s, .s] [(0, .c [.i .i64] [.int .i64 (2)]), (1, .c [.s] [.string ⟨#[108, 111, 103]⟩])]), [28, 1000000001, 1000000002], (some 28), none⟩,
   o1 29 (.sli [.i .i64, .s, .s, .s] [.t 27, .t 28]),
   ⟨false, [], [], .det 2 (.copy 29), [6, 29], (some 6), none⟩,
   o1 7 (.lit [.b] [.bool true])])
 .ret)))))
def s_sLogActs : Sig := ⟨[.rd true [.sl (.own none) [.d, .d, .d]], .rd false [.d], .rd true [.d, .d, .d, .d, .d, .d, .d, .d, .sl (.own none) [.d, .d], .sl (.own none) [.d], .d, .d, .sl (.own none) [.d, .d], .d]], (.tup [(false, 1), (false, 1)] [.sl (.own none) [.d, .d, .d, .d], .d])⟩
noncomputable def E_sLogActs : TEnv := envOf [(99, p_sRecText), (282, p_sFrame)]
noncomputable def f_sLogActs (n : Nat) : (List (ByteArray × ByteArray × Int)) × Int × (Int × Int × Int × Int × Int × Int × Int × Bool × List (Int × Int) × List (Int) × Int × Int × List (Int × Int) × Int) → Option ((List (Int × ByteArray × ByteArray × ByteArray) × Bool) × Unit) := runFn n E_sLogActs c_sLogActs [[.sl [.s, .s, .i .i64]], [.i .i64], [.i .i64, .i .i64, .i .i64, .i .i64, .i .i64, .i .i64, .i .i64, .b, .sl [.i .i64, .i .i64], .sl [.i .i64], .i .i64, .i .i64, .sl [.i .i64, .i .i64], .i .i64]] [.sl [.i .i64, .s, .s, .s], .b] [] [6, 7] .no
noncomputable def g_sLogActs := f_sLogActs BIG
noncomputable def p_sLogActs : TSp := ⟨s_sLogActs, [[.sl [.s, .s, .i .i64]], [.i .i64], [.i .i64, .i .i64, .i .i64, .i .i64, .i .i64, .i .i64, .i .i64, .b, .sl [.i .i64, .i .i64], .sl [.i .i64], .i .i64, .i .i64, .sl [.i .i64, .i .i64], .i .i64]], [.sl [.i .i64, .s, .s, .s], .b], [], Ou.j .no, g_sLogActs⟩
theorem k_sLogActs : chkW PG E_sLogActs 143 s_sLogActs (c_sLogActs.ht 30) .no = some (c_sLogActs.wc E_sLogActs, [6, 7]) := by kernel_rfl
theorem ok_sLogActs : p_sLogActs.Ok PG 143 := mkOk (env_cons ok_sRecText (env_cons ok_sFrame (env_nil PG))) k_sLogActs (by kernel_rfl)
theorem e_sLogActs (n : Nat) (a0 : List (ByteArray × ByteArray × Int)) (a1 : Int) (a2 : Int × Int × Int × Int × Int × Int × Int × Bool × List (Int × Int) × List (Int) × Int × Int × List (Int × Int) × Int) : f_sLogActs n (a0, a1, a2) =
  Option.bind (g_sRecText (a1, a2)) fun r0 =>
  bif !r0.1.2 then
   some (([], false), ())
  else Option.bind (g_sFrame r0.1.1) fun r1 =>
  some (([((1 : Int), (ByteArray.mk #[108, 111, 103]), r1.1.1, ByteArray.empty), ((2 : Int), (ByteArray.mk #[108, 111, 103]), ByteArray.empty, ByteArray.empty)], true), ()) := by kernel_rfl
/- impl.noAnswer -/
def c_inoAnswer : TC :=
 (.seq (.rg [o1 1 (.a (.t 0)),
   o1 2 (.lit [.b] [.bool false])])
 (.seq (.join [⟨2, [.b], false⟩] 8388604 none (.rg [o1 3 (.idx .nil),
   o1 4 (.load 1 [] 0 (.t 3) 1 false),
   o1 5 (.data (.bin .eql) [.t 4, .c (.int .i64 (0))]),
   o1 6 (.copy 5),
   o2 7 (.idx .nil) 3 true,
   o2 8 (.load 1 [] 1 (.t 7) 1 false) 3 true,
   o2 9 (.data .not [.t 8]) 3 true,
   ⟨false, [], [], .pick 6 (.t 9) (.c (.bool false)), [10], (some 10), none⟩,
   o1 11 (.copy 10),
   o2 12 (.idx .nil) 8 true,
   o2 13 (.load 1 [] 2 (.t 12) 1 false) 8 true,
   o2 14 (.len 13) 8 true,
   o2 15 (.data (.bin .eql) [.t 14, .c (.int .i64 (0))]) 8 true,
   ⟨false, [], [], .pick 11 (.t 15) (.c (.bool false)), [16], (some 16), none⟩,
   o1 17 (.copy 16),
   o2 18 (.idx .nil) 14 true,
   o2 19 (.load 1 [] 3 (.t 18) 1 false) 14 true,
   o2 20 (.len 19) 14 true,
   o2 21 (.data (.bin .eql) [.t 20, .c (.int .i64 (0))]) 14 true,
   ⟨false, [], [], .pick 17 (.t 21) (.c (.bool false)), [22], (some 22), none⟩,
   o1 2 (.copy 22)]))
 .ret))
def s_inoAnswer : Sig := ⟨[.rd true [.d, .d, .sl (.own none) [.d, .d], .sl (.own none) [.d]]], (.one false [.d])⟩
noncomputable def E_inoAnswer : TEnv := envOf []
noncomputable def f_inoAnswer (n : Nat) : (Int × Bool × List (Int × Int) × List (Int)) → Option ((Bool) × Unit) := runFn n E_inoAnswer c_inoAnswer [[.i .i64, .b, .sl [.i .i64, .i .i64], .sl [.i .i64]]] [.b] [] [2] .no
noncomputable def g_inoAnswer := f_inoAnswer BIG
noncomputable def p_inoAnswer : TSp := ⟨s_inoAnswer, [[.i .i64, .b, .sl [.i .i64, .i .i64], .sl [.i .i64]]], [.b], [], Ou.j .no, g_inoAnswer⟩
theorem k_inoAnswer : chkW PG E_inoAnswer 164 s_inoAnswer (c_inoAnswer.ht 23) .no = some (c_inoAnswer.wc E_inoAnswer, [2]) := by kernel_rfl
theorem ok_inoAnswer : p_inoAnswer.Ok PG 164 := mkOk (env_nil PG) k_inoAnswer (by kernel_rfl)
theorem e_inoAnswer (n : Nat) (a0 : Int × Bool × List (Int × Int) × List (Int)) : f_inoAnswer n a0 =
  Option.bind (bif decide (a0.1 = (0 : Int)) then
    bif !a0.2.1 then
     bif decide ((a0.2.2.1.length : Int) = (0 : Int)) then
      some (decide ((a0.2.2.2.length : Int) = (0 : Int)))
     else some false
    else some false
   else some false : Option (Bool)) fun x0 =>
  some (x0, ()) := by kernel_rfl
/- impl.noOrder -/
def c_inoOrder : TC :=
 (.seq (.rg [o1 1 (.a (.t 0)),
   o1 2 (.lit [.b] [.bool false])])
 (.seq (.join [⟨2, [.b], false⟩] 4194300 none (.rg [o1 3 (.idx .nil),
   o1 4 (.load 1 [] 0 (.t 3) 1 false),
   o1 5 (.data (.bin .eql) [.t 4, .c (.int .i64 (0))]),
   o1 6 (.copy 5),
   o2 7 (.idx .nil) 3 true,
   o2 8 (.load 1 [] 1 (.t 7) 1 false) 3 true,
   o2 9 (.data (.bin .eql) [.t 8, .c (.int .i64 (0))]) 3 true,
   ⟨false, [], [], .pick 6 (.t 9) (.c (.bool false)), [10], (some 10), none⟩,
   o1 11 (.copy 10),
   o2 12 (.idx .nil) 8 true,
   o2 13 (.load 1 [] 2 (.t 12) 1 false) 8 true,
   o2 14 (.len 13) 8 true,
   o2 15 (.data (.bin .eql) [.t 14, .c (.int .i64 (0))]) 8 true,
   ⟨false, [], [], .pick 11 (.t 15) (.c (.bool false)), [16], (some 16), none⟩,
   o1 17 (.copy 16),
   o2 18 (.idx .nil) 14 true,
   o2 19 (.load 1 [] 3 (.t 18) 1 false) 14 true,
   o2 20 (.data (.bin .eql) [.t 19, .c (.int .i64 (0))]) 14 true,
   ⟨false, [], [], .pick 17 (.t 20) (.c (.bool false)), [21], (some 21), none⟩,
   o1 2 (.copy 21)]))
 .ret))
def s_inoOrder : Sig := ⟨[.rd true [.d, .d, .sl (.own none) [.d, .d], .d]], (.one false [.d])⟩
noncomputable def E_inoOrder : TEnv := envOf []
noncomputable def f_inoOrder (n : Nat) : (Int × Int × List (Int × Int) × Int) → Option ((Bool) × Unit) := runFn n E_inoOrder c_inoOrder [[.i .i64, .i .i64, .sl [.i .i64, .i .i64], .i .i64]] [.b] [] [2] .no
noncomputable def g_inoOrder := f_inoOrder BIG
noncomputable def p_inoOrder : TSp := ⟨s_inoOrder, [[.i .i64, .i .i64, .sl [.i .i64, .i .i64], .i .i64]], [.b], [], Ou.j .no, g_inoOrder⟩
theorem k_inoOrder : chkW PG E_inoOrder 235 s_inoOrder (c_inoOrder.ht 22) .no = some (c_inoOrder.wc E_inoOrder, [2]) := by kernel_rfl
theorem ok_inoOrder : p_inoOrder.Ok PG 235 := mkOk (env_nil PG) k_inoOrder (by kernel_rfl)
theorem e_inoOrder (n : Nat) (a0 : Int × Int × List (Int × Int) × Int) : f_inoOrder n a0 =
  Option.bind (bif decide (a0.1 = (0 : Int)) then
    bif decide (a0.2.1 = (0 : Int)) then
     bif decide ((a0.2.2.1.length : Int) = (0 : Int)) then
      some (decide (a0.2.2.2 = (0 : Int)))
     else some false
    else some false
   else some false : Option (Bool)) fun x0 =>
  some (x0, ()) := by kernel_rfl
/- impl.in -/
def c_iin : TC :=
 (.seq (.rg [o1 6 (.lit [.b] [.bool false])])
 (.seq (.join [⟨6, [.b], false⟩] 32704 none (.rg [o1 7 (.copy 0),
   o1 8 (.copy 1),
   o1 9 (.data (.bin .geq) [.t 7, .t 8]),
   o1 10 (.copy 9),
   o2 11 (.copy 0) 3 true,
   o2 12 (.copy 2) 3 true,
   o2 13 (.data (.bin .leq) [.t 11, .t 12]) 3 true,
   ⟨false, [], [], .pick 10 (.t 13) (.c (.bool false)), [14], (some 14), none⟩,
   o1 6 (.copy 14)]))
 .ret))
def s_iin : Sig := ⟨[.rd false [.d], .rd false [.d], .rd false [.d]], (.one false [.d])⟩
noncomputable def E_iin : TEnv := envOf []
noncomputable def f_iin (n : Nat) : Int × Int × Int → Option ((Bool) × Unit) := runFn n E_iin c_iin [[.i .i64], [.i .i64], [.i .i64]] [.b] [] [6] .no
noncomputable def g_iin := f_iin BIG
noncomputable def p_iin : TSp := ⟨s_iin, [[.i .i64], [.i .i64], [.i .i64]], [.b], [], Ou.j .no, g_iin⟩
theorem k_iin : chkW PG E_iin 161 s_iin (c_iin.ht 15) .no = some (c_iin.wc E_iin, [6]) := by kernel_rfl
theorem ok_iin : p_iin.Ok PG 161 := mkOk (env_nil PG) k_iin (by kernel_rfl)
theorem e_iin (n : Nat) (a0 : Int) (a1 : Int) (a2 : Int) : f_iin n (a0, a1, a2) =
  Option.bind (bif decide (a1 ≤ a0) then
    some (decide (a0 ≤ a2))
   else some false : Option (Bool)) fun x0 =>
  some (x0, ()) := by kernel_rfl
/- impl.VarText -/
def c_iVarText : TC :=
 (.seq (.rg [o1 2 (.lit [.s] [.string ⟨#[]⟩]),
   o1 3 (.lit [.b] [.bool false])])
 (.seq (.seq (.rg [o1 5 (.copy 0),
   o3 6 161 [.t 5, .c [.i .i64] [.int .i64 (0)], .c [.i .i64] [.int .i64 (1000000000)]],
   o1 7 (.data .not [.t 6])])
 (.cond (.t 7)
  (.seq (.rg [o1 2 (.lit [.s] [.string ⟨#[]⟩]),
    o1 3 (.lit [.b] [.bool false])])
  .ret)
  .skip))
 (.seq (.rg [o1 4 (.lit [.sl [.i .u8]] [.slice none 0 0])])
 (.seq (.join [⟨4, [.sl [.i .u8]], false⟩, ⟨0, [.i .i64], false⟩] 524049 none (.block 0 (.loop [⟨4, [.sl [.i .u8]], false⟩, ⟨0, [.i .i64], false⟩] 524049
  (.seq (.seq (.rg [o1 8 (.copy 0),
    o1 9 (.data (.bin .gtr) [.t 8, .c (.int .i64 (127))])])
  (.cond (.t 9)
   .skip
   (.exit 0)))
  (.block 1 (.seq (.rg [⟨false, [], [], .det 2 (.copy 4), [10, 4], (some 10), none⟩,
    o1 11 (.copy 0),
    o1 12 (.data (.bin .rem) [.t 11, .c (.int .i64 (128))]),
    o1 13 (.data (.bin .add) [.t 12, .c (.int .i64 (128))]),
    o1 14 (.data (.conv .u8) [.t 13]),
    o1 15 (.sli [.i .u8] [.t 14]),
    ⟨false, [], [], .det 2 (.app (some 10) 15), [16, 10], (some 16), none⟩,
    ⟨false, [], [], .det 2 (.copy 16), [4, 16], (some 4), none⟩])
  (.rg [o1 17 (.copy 0),
    o1 18 (.data (.bin .quo) [.t 17, .c (.int .i64 (128))]),
    o1 0 (.copy 18)])))))))
 (.seq (.rg [⟨false, [], [], .det 2 (.copy 4), [19, 4], (some 19), none⟩,
   o1 20 (.copy 0),
   o1 21 (.data (.conv .u8) [.t 20]),
   o1 22 (.sli [.i .u8] [.t 21]),
   ⟨false, [], [], .det 2 (.app (some 19) 22), [23, 19], (some 23), none⟩,
   o1 24 (.bytes 23),
   o1 2 (.copy 24),
   o1 3 (.lit [.b] [.bool true])])
 .ret)))))
def s_iVarText : Sig := ⟨[.rd false [.d]], (.tup [(false, 1), (false, 1)] [.d, .d])⟩
noncomputable def E_iVarText : TEnv := envOf [(161, p_iin)]
noncomputable def f_iVarText (n : Nat) : Int → Option ((ByteArray × Bool) × Unit) := runFn n E_iVarText c_iVarText [[.i .i64]] [.s, .b] [] [2, 3] .no
noncomputable def g_iVarText := f_iVarText BIG
noncomputable def p_iVarText : TSp := ⟨s_iVarText, [[.i .i64]], [.s, .b], [], Ou.j .no, g_iVarText⟩
theorem k_iVarText : chkW PG E_iVarText 237 s_iVarText (c_iVarText.ht 25) .no = some (c_iVarText.wc E_iVarText, [2, 3]) := by kernel_rfl
theorem ok_iVarText : p_iVarText.Ok PG 237 := mkOk (env_cons ok_iin (env_nil PG)) k_iVarText (by kernel_rfl)
theorem e_iVarText (n : Nat) (a0 : Int) : f_iVarText n a0 =
  Option.bind (g_iin (a0, (0 : Int), (1000000000 : Int))) fun r0 =>
  bif !r0.1 then
   some (((ByteArray.mk #[]), false), ())
  else Option.bind (loopT n (X := (List (Int)) × Int) (B := (List (Int)) × Int) (fun self2 x1 =>
    bif decide ((127 : Int) < x1.2) then
     bif decide ((128 : Int) = 0) then
      none
     else bif decide (x1.1.length + ([IntKind.wrap .u8 (IntKind.wrap .i64 ((Int.tmod x1.2 (128 : Int)) + (128 : Int)))]).length ≤ 4294967296) then
      bif decide ((128 : Int) = 0) then
       none
      else self2 (x1.1 ++ ([IntKind.wrap .u8 (IntKind.wrap .i64 ((Int.tmod x1.2 (128 : Int)) + (128 : Int)))]), IntKind.wrap .i64 (Int.tdiv x1.2 (128 : Int)))
     else none
    else some (x1.1, x1.2)) ([], a0) : Option ((List (Int)) × Int)) fun x3 =>
  bif decide (x3.1.length + ([IntKind.wrap .u8 (x3.2)]).length ≤ 4294967296) then
   some ((bytesStr (x3.1 ++ ([IntKind.wrap .u8 (x3.2)])), true), ())
  else none := by kernel_rfl
/- impl.askText -/
def c_iaskText : TC :=
 (.seq (.rg [o1 1 (.a (.t 0)),
   o1 2 (.lit [.s] [.string ⟨#[]⟩]),
   o1 3 (.lit [.b] [.bool false])])
 (.seq (.rg [o1 4 (.lit [.s] [.string ⟨#[]⟩])])
 (.seq (.join [⟨4, [.s], false⟩] 34359738332 (some [⟨2, [.s], false⟩, ⟨3, [.b], false⟩]) (.seq (.rg [o1 9 (.idx .nil),
   o1 10 (.load 1 [] 0 (.t 9) 1 false),
   o1 11 (.idx .nil),
   o1 12 (.load 1 [] 1 (.t 11) 1 false),
   o1 13 (.idx .nil),
   o1 14 (.load 1 [] 2 (.t 13) 1 false),
   o1 15 (.idx .nil),
   o1 16 (.load 1 [] 3 (.t 15) 1 false),
   o1 17 (.sli [.i .i64] [.t 10, .t 12, .t 14, .t 16]),
   o1 18 (.len 17),
   o1 19 (.lit [.i .i64] [.int .i64 (0)])])
 (.block 0 (.loop [⟨4, [.s], false⟩, ⟨19, [.i .i64], false⟩] 34359214556
  (.seq (.rg [o1 20 (.data (.bin .lss) [.t 19, .t 18])])
  (.seq (.cond (.t 20)
   .skip
   (.exit 0))
  (.seq (.block 1 (.seq (.rg [o1 21 (.index 17 (.t 19)),
    o1 22 (.load 17 [(0, 1)] 0 (.t 21) 1 false),
    o1 6 (.copy 22)])
  (.seq (.seq (.rg [o1 23 (.copy 6),
    o3 24 161 [.t 23, .c [.i .i64] [.int .i64 (0)], .c [.i .i64] [.int .i64 (100000)]],
    o1 25 (.data .not [.t 24])])
  (.cond (.t 25)
   (.seq (.rg [o1 2 (.lit [.s] [.string ⟨#[]⟩]),
     o1 3 (.lit [.b] [.bool false])])
   .ret)
   .skip))
  (.seq (.rg [o1 27 (.copy 6),
    o3 28 237 [.t 27],
    ⟨false, [], [], .det 2 (.copy 28), [26, 28], (some 26), none⟩,
    o1 29 (.ext 26 0 1),
    o1 30 (.ext 26 1 1),
    o1 7 (.copy 29),
    o1 8 (.copy 30)])
  (.rg [o1 31 (.copy 4),
    o1 32 (.copy 7),
    o1 33 (.data (.bin .add) [.t 31, .t 32]),
    o1 4 (.copy 33)])))))
  (.rg [o1 34 (.data (.bin .add) [.t 19, .c (.int .i64 (1))]),
    o1 19 (.copy 34)]))))))))
 (.seq (.rg [o1 35 (.copy 4),
   o1 2 (.copy 35),
   o1 3 (.lit [.b] [.bool true])])
 .ret))))
def s_iaskText : Sig := ⟨[.rd true [.d, .d, .d, .d]], (.tup [(false, 1), (false, 1)] [.d, .d])⟩
noncomputable def E_iaskText : TEnv := envOf [(161, p_iin), (237, p_iVarText)]
noncomputable def f_iaskText (n : Nat) : (Int × Int × Int × Int) → Option ((ByteArray × Bool) × Unit) := runFn n E_iaskText c_iaskText [[.i .i64, .i .i64, .i .i64, .i .i64]] [.s, .b] [] [2, 3] .no
noncomputable def g_iaskText := f_iaskText BIG
noncomputable def p_iaskText : TSp := ⟨s_iaskText, [[.i .i64, .i .i64, .i .i64, .i .i64]], [.s, .b], [], Ou.j .no, g_iaskText⟩
theorem k_iaskText : chkW PG E_iaskText 236 s_iaskText (c_iaskText.ht 36) .no = some (c_iaskText.wc E_iaskText, [2, 3]) := by kernel_rfl
theorem ok_iaskText : p_iaskText.Ok PG 236 := mkOk (env_cons ok_iin (env_cons ok_iVarText (env_nil PG))) k_iaskText (by kernel_rfl)
theorem e_iaskText (n : Nat) (a0 : Int × Int × Int × Int) : f_iaskText n a0 =
  Option.bind (loopT n (X := ByteArray × Int) (B := (ByteArray) ⊕ (ByteArray × Bool)) (fun self1 x0 =>
    bif decide (x0.2 < (([a0.1, a0.2.1, a0.2.2.1, a0.2.2.2]).length : Int)) then
     bnd ([a0.1, a0.2.1, a0.2.2.1, a0.2.2.2]).length x0.2 fun n2 =>
     Option.bind ([a0.1, a0.2.1, a0.2.2.1, a0.2.2.2])[n2]? fun y3 =>
     Option.bind (g_iin (y3, (0 : Int), (100000 : Int))) fun r4 =>
     bif !r4.1 then
      some (Sum.inr ((ByteArray.mk #[]), false))
     else Option.bind (g_iVarText y3) fun r5 =>
     bif decide (x0.1.size + r5.1.1.size ≤ 4611686018427387904) then
      self1 (x0.1 ++ r5.1.1, IntKind.wrap .i64 (x0.2 + (1 : Int)))
     else none
    else some (Sum.inl x0.1)) ((ByteArray.mk #[]), (0 : Int)) : Option ((ByteArray) ⊕ (ByteArray × Bool))) fun y => match y with
  | .inl x6 =>
   some ((x6, true), ())
  | .inr x6 =>
   some (x6, ()) := by kernel_rfl
/- impl.EdgeOk -/
def c_iEdgeOk : TC :=
 (.seq (.rg [o1 3 (.a (.t 1)),
   o1 4 (.lit [.b] [.bool false])])
 (.seq (.join [⟨4, [.b], false⟩] 268435440 none (.rg [o1 5 (.copy 0),
   o3 6 161 [.t 5, .c [.i .i64] [.int .i64 (1)], .c [.i .i64] [.int .i64 (12)]],
   o1 7 (.copy 6),
   o2 8 (.idx .nil) 2 true,
   o2 9 (.load 3 [] 0 (.t 8) 1 false) 2 true,
   o2 10 (.copy 0) 2 true,
   o2 11 (.data (.bin .sub) [.t 10, .c (.int .i64 (1))]) 2 true,
   ⟨false, [], [], .call 1 161 [.t 9, .c [.i .i64] [.int .i64 (0)], .t 11] .no, [12], (some 12), some (2, true)⟩,
   ⟨false, [], [], .pick 7 (.t 12) (.c (.bool false)), [13], (some 13), none⟩,
   o1 14 (.copy 13),
   o2 15 (.idx .nil) 9 true,
   o2 16 (.load 3 [] 1 (.t 15) 1 false) 9 true,
   o2 17 (.copy 0) 9 true,
   o2 18 (.data (.bin .sub) [.t 17, .c (.int .i64 (1))]) 9 true,
   ⟨false, [], [], .call 1 161 [.t 16, .c [.i .i64] [.int .i64 (0)], .t 18] .no, [19], (some 19), some (9, true)⟩,
   ⟨false, [], [], .pick 14 (.t 19) (.c (.bool false)), [20], (some 20), none⟩,
   o1 21 (.copy 20),
   o2 22 (.idx .nil) 16 true,
   o2 23 (.load 3 [] 0 (.t 22) 1 false) 16 true,
   o2 24 (.idx .nil) 16 true,
   o2 25 (.load 3 [] 1 (.t 24) 1 false) 16 true,
   o2 26 (.data (.bin .lss) [.t 23, .t 25]) 16 true,
   ⟨false, [], [], .pick 21 (.t 26) (.c (.bool false)), [27], (some 27), none⟩,
   o1 4 (.copy 27)]))
 .ret))
def s_iEdgeOk : Sig := ⟨[.rd false [.d], .rd true [.d, .d]], (.one false [.d])⟩
noncomputable def E_iEdgeOk : TEnv := envOf [(161, p_iin)]
noncomputable def f_iEdgeOk (n : Nat) : Int × (Int × Int) → Option ((Bool) × Unit) := runFn n E_iEdgeOk c_iEdgeOk [[.i .i64], [.i .i64, .i .i64]] [.b] [] [4] .no
noncomputable def g_iEdgeOk := f_iEdgeOk BIG
noncomputable def p_iEdgeOk : TSp := ⟨s_iEdgeOk, [[.i .i64], [.i .i64, .i .i64]], [.b], [], Ou.j .no, g_iEdgeOk⟩
theorem k_iEdgeOk : chkW PG E_iEdgeOk 173 s_iEdgeOk (c_iEdgeOk.ht 28) .no = some (c_iEdgeOk.wc E_iEdgeOk, [4]) := by kernel_rfl
theorem ok_iEdgeOk : p_iEdgeOk.Ok PG 173 := mkOk (env_cons ok_iin (env_nil PG)) k_iEdgeOk (by kernel_rfl)
theorem e_iEdgeOk (n : Nat) (a0 : Int) (a1 : Int × Int) : f_iEdgeOk n (a0, a1) =
  Option.bind (Option.bind (g_iin (a0, (1 : Int), (12 : Int))) fun r0 =>
   bif r0.1 then
    Option.bind (g_iin (a1.1, (0 : Int), IntKind.wrap .i64 (a0 - (1 : Int)))) fun r1 =>
    bif r1.1 then
     Option.bind (g_iin (a1.2, (0 : Int), IntKind.wrap .i64 (a0 - (1 : Int)))) fun r2 =>
     bif r2.1 then
      some (decide (a1.1 < a1.2))
     else some false
    else some false
   else some false : Option (Bool)) fun x3 =>
  some (x3, ()) := by kernel_rfl
/- impl.ahead -/
def c_iahead : TC :=
 (.seq (.rg [o1 2 (.a (.t 0)),
   o1 3 (.a (.t 1)),
   o1 4 (.lit [.b] [.bool false])])
 (.seq (.join [⟨4, [.b], false⟩] 16777200 none (.rg [o1 5 (.idx .nil),
   o1 6 (.load 2 [] 0 (.t 5) 1 false),
   o1 7 (.idx .nil),
   o1 8 (.load 3 [] 0 (.t 7) 1 false),
   o1 9 (.data (.bin .lss) [.t 6, .t 8]),
   o1 10 (.copy 9),
   o2 11 (.idx .nil) 5 false,
   o2 12 (.load 2 [] 0 (.t 11) 1 false) 5 false,
   o2 13 (.idx .nil) 5 false,
   o2 14 (.load 3 [] 0 (.t 13) 1 false) 5 false,
   o2 15 (.data (.bin .eql) [.t 12, .t 14]) 5 false,
   o2 16 (.copy 15) 5 false,
   o2 17 (.idx .nil) 11 true,
   o2 18 (.load 2 [] 1 (.t 17) 1 false) 11 true,
   o2 19 (.idx .nil) 11 true,
   o2 20 (.load 3 [] 1 (.t 19) 1 false) 11 true,
   o2 21 (.data (.bin .lss) [.t 18, .t 20]) 11 true,
   ⟨false, [], [], .pick 16 (.t 21) (.c (.bool false)), [22], (some 22), some (5, false)⟩,
   ⟨false, [], [], .pick 10 (.c (.bool true)) (.t 22), [23], (some 23), none⟩,
   o1 4 (.copy 23)]))
 .ret))
def s_iahead : Sig := ⟨[.rd true [.d, .d], .rd true [.d, .d]], (.one false [.d])⟩
noncomputable def E_iahead : TEnv := envOf []
noncomputable def f_iahead (n : Nat) : (Int × Int) × (Int × Int) → Option ((Bool) × Unit) := runFn n E_iahead c_iahead [[.i .i64, .i .i64], [.i .i64, .i .i64]] [.b] [] [4] .no
noncomputable def g_iahead := f_iahead BIG
noncomputable def p_iahead : TSp := ⟨s_iahead, [[.i .i64, .i .i64], [.i .i64, .i .i64]], [.b], [], Ou.j .no, g_iahead⟩
theorem k_iahead : chkW PG E_iahead 272 s_iahead (c_iahead.ht 24) .no = some (c_iahead.wc E_iahead, [4]) := by kernel_rfl
theorem ok_iahead : p_iahead.Ok PG 272 := mkOk (env_nil PG) k_iahead (by kernel_rfl)
theorem e_iahead (n : Nat) (a0 : Int × Int) (a1 : Int × Int) : f_iahead n (a0, a1) =
  Option.bind (bif decide (a0.1 < a1.1) then
    some true
   else bif decide (a0.1 = a1.1) then
    some (decide (a0.2 < a1.2))
   else some false : Option (Bool)) fun x0 =>
  some (x0, ()) := by kernel_rfl
/- impl.edgesOk -/
def c_iedgesOk : TC :=
 (.seq (.rg [o1 4 (.lit [.b] [.bool false])])
 (.seq (.join [] 8589934576 (some [⟨4, [.b], false⟩]) (.seq (.rg [o1 7 (.copy 1),
   o1 8 (.len 7),
   o1 9 (.lit [.i .i64] [.int .i64 (0)])])
 (.block 0 (.loop [⟨9, [.i .i64], false⟩] 8589934192
  (.seq (.rg [o1 10 (.data (.bin .lss) [.t 9, .t 8])])
  (.seq (.cond (.t 10)
   .skip
   (.exit 0))
  (.seq (.join [] 4294965360 (some [⟨4, [.b], false⟩]) (.block 1 (.seq (.rg [o1 11 (.copy 9),
    o1 12 (.index 7 (.t 9)),
    o1 13 (.load 7 [(0, 2)] 0 (.t 12) 2 false),
    ⟨false, [], [], .det 2 (.a (.c [.i .i64, .i .i64] [.int .i64 (0), .int .i64 (0)])), [6, 1000000001], (some 6), none⟩,
    o1 5 (.copy 11),
    o4 1 [6] (.store 6 [] 0 .nil (.t 13))])
  (.seq (.join [⟨31, [.b], false⟩] 4294950912 none (.rg [o1 14 (.copy 0),
    o1 15 (.load 6 [] 0 .nil 2 false),
    o3 16 173 [.t 14, .t 15],
    o1 17 (.data .not [.t 16]),
    o1 18 (.copy 17),
    o2 19 (.copy 5) 4 false,
    o2 20 (.data (.bin .gtr) [.t 19, .c (.int .i64 (0))]) 4 false,
    o2 21 (.copy 20) 4 false,
    o2 22 (.copy 1) 7 true,
    o2 23 (.copy 5) 7 true,
    o2 24 (.data (.bin .sub) [.t 23, .c (.int .i64 (1))]) 7 true,
    o2 25 (.index 22 (.t 24)) 7 true,
    o2 26 (.load 22 [(0, 2)] 0 (.t 25) 2 false) 7 true,
    o2 27 (.load 6 [] 0 .nil 2 false) 7 true,
    ⟨false, [], [], .call 1 272 [.t 26, .t 27] .no, [28], (some 28), some (7, true)⟩,
    o2 29 (.data .not [.t 28]) 7 true,
    ⟨false, [], [], .pick 21 (.t 29) (.c (.bool false)), [30], (some 30), some (4, false)⟩,
    ⟨false, [], [], .pick 18 (.c (.bool true)) (.t 30), [31], (some 31), none⟩]))
  (.cond (.t 31)
   (.seq (.rg [o1 4 (.lit [.b] [.bool false])])
   .ret)
   .skip)))))
  (.rg [o1 32 (.data (.bin .add) [.t 9, .c (.int .i64 (1))]),
    o1 9 (.copy 32)]))))))))
 (.seq (.rg [o1 33 (.copy 1),
   o1 34 (.len 33),
   o1 35 (.data (.bin .leq) [.t 34, .c (.int .i64 (66))]),
   o1 4 (.copy 35)])
 .ret)))
def s_iedgesOk : Sig := ⟨[.rd false [.d], .rd false [.sl (.own none) [.d, .d]]], (.one false [.d])⟩
noncomputable def E_iedgesOk : TEnv := envOf [(173, p_iEdgeOk), (272, p_iahead)]
noncomputable def f_iedgesOk (n : Nat) : Int × (List (Int × Int)) → Option ((Bool) × Unit) := runFn n E_iedgesOk c_iedgesOk [[.i .i64], [.sl [.i .i64, .i .i64]]] [.b] [] [4] .no
noncomputable def g_iedgesOk := f_iedgesOk BIG
noncomputable def p_iedgesOk : TSp := ⟨s_iedgesOk, [[.i .i64], [.sl [.i .i64, .i .i64]]], [.b], [], Ou.j .no, g_iedgesOk⟩
theorem k_iedgesOk : chkW PG E_iedgesOk 255 s_iedgesOk (c_iedgesOk.ht 36) .no = some (c_iedgesOk.wc E_iedgesOk, [4]) := by kernel_rfl
theorem ok_iedgesOk : p_iedgesOk.Ok PG 255 := mkOk (env_cons ok_iEdgeOk (env_cons ok_iahead (env_nil PG))) k_iedgesOk (by kernel_rfl)
theorem e_iedgesOk (n : Nat) (a0 : Int) (a1 : List (Int × Int)) : f_iedgesOk n (a0, a1) =
  Option.bind (loopT n (X := Int) (B := (Unit) ⊕ (Bool)) (fun self1 x0 =>
    bif decide (x0 < (a1.length : Int)) then
     Option.bind (bnd a1.length x0 fun n2 =>
      Option.bind a1[n2]? fun y3 =>
      Option.bind (Option.bind (g_iEdgeOk (a0, y3)) fun r4 =>
       bif !r4.1 then
        some true
       else bif decide ((0 : Int) < x0) then
        bnd a1.length (IntKind.wrap .i64 (x0 - (1 : Int))) fun n5 =>
        Option.bind a1[n5]? fun y6 =>
        Option.bind (g_iahead (y6, y3)) fun r7 =>
        some !r7.1
       else some false : Option (Bool)) fun x8 =>
      bif x8 then
       some (Sum.inr false)
      else some (Sum.inl ()) : Option ((Unit) ⊕ (Bool))) fun y => match y with
     | .inl x9 =>
      self1 (IntKind.wrap .i64 (x0 + (1 : Int)))
     | .inr x9 =>
      some (Sum.inr x9)
    else some (Sum.inl ())) (0 : Int) : Option ((Unit) ⊕ (Bool))) fun y => match y with
  | .inl x10 =>
   some (decide ((a1.length : Int) ≤ (66 : Int)), ())
  | .inr x10 =>
   some (x10, ()) := by kernel_rfl
/- impl.labelsOk -/
def c_ilabelsOk : TC :=
 (.seq (.rg [o1 4 (.lit [.b] [.bool false])])
 (.seq (.seq (.rg [o1 7 (.copy 1),
   o1 8 (.len 7),
   o1 9 (.copy 0),
   o1 10 (.data (.bin .neq) [.t 8, .t 9])])
 (.cond (.t 10)
  (.seq (.rg [o1 4 (.lit [.b] [.bool false])])
  .ret)
  .skip))
 (.seq (.join [] 2147481712 (some [⟨4, [.b], false⟩]) (.seq (.rg [o1 11 (.copy 1),
   o1 12 (.len 11),
   o1 13 (.lit [.i .i64] [.int .i64 (0)])])
 (.block 0 (.loop [⟨13, [.i .i64], false⟩] 2147475568
  (.seq (.rg [o1 14 (.data (.bin .lss) [.t 13, .t 12])])
  (.seq (.cond (.t 14)
   .skip
   (.exit 0))
  (.seq (.join [] 1073709168 (some [⟨4, [.b], false⟩]) (.block 1 (.seq (.rg [o1 15 (.copy 13),
    o1 16 (.index 11 (.t 13)),
    o1 17 (.load 11 [(0, 1)] 0 (.t 16) 1 false),
    o1 5 (.copy 15),
    o1 6 (.copy 17)])
  (.seq (.join [⟨29, [.b], false⟩] 1073479680 none (.rg [o1 18 (.copy 6),
    o1 19 (.copy 5),
    o3 20 161 [.t 18, .c [.i .i64] [.int .i64 (0)], .t 19],
    o1 21 (.data .not [.t 20]),
    o1 22 (.copy 21),
    o2 23 (.copy 1) 4 false,
    o2 24 (.copy 6) 4 false,
    o2 25 (.index 23 (.t 24)) 4 false,
    o2 26 (.load 23 [(0, 1)] 0 (.t 25) 1 false) 4 false,
    o2 27 (.copy 6) 4 false,
    o2 28 (.data (.bin .neq) [.t 26, .t 27]) 4 false,
    ⟨false, [], [], .pick 22 (.c (.bool true)) (.t 28), [29], (some 29), none⟩]))
  (.cond (.t 29)
   (.seq (.rg [o1 4 (.lit [.b] [.bool false])])
   .ret)
   .skip)))))
  (.rg [o1 30 (.data (.bin .add) [.t 13, .c (.int .i64 (1))]),
    o1 13 (.copy 30)]))))))))
 (.seq (.rg [o1 4 (.lit [.b] [.bool true])])
 .ret))))
def s_ilabelsOk : Sig := ⟨[.rd false [.d], .rd false [.sl (.own none) [.d]]], (.one false [.d])⟩
noncomputable def E_ilabelsOk : TEnv := envOf [(161, p_iin)]
noncomputable def f_ilabelsOk (n : Nat) : Int × List (Int) → Option ((Bool) × Unit) := runFn n E_ilabelsOk c_ilabelsOk [[.i .i64], [.sl [.i .i64]]] [.b] [] [4] .no
noncomputable def g_ilabelsOk := f_ilabelsOk BIG
noncomputable def p_ilabelsOk : TSp := ⟨s_ilabelsOk, [[.i .i64], [.sl [.i .i64]]], [.b], [], Ou.j .no, g_ilabelsOk⟩
theorem k_ilabelsOk : chkW PG E_ilabelsOk 205 s_ilabelsOk (c_ilabelsOk.ht 31) .no = some (c_ilabelsOk.wc E_ilabelsOk, [4]) := by kernel_rfl
theorem ok_ilabelsOk : p_ilabelsOk.Ok PG 205 := mkOk (env_cons ok_iin (env_nil PG)) k_ilabelsOk (by kernel_rfl)
theorem e_ilabelsOk (n : Nat) (a0 : Int) (a1 : List (Int)) : f_ilabelsOk n (a0, a1) =
  bif !decide ((a1.length : Int) = a0) then
   some (false, ())
  else Option.bind (loopT n (X := Int) (B := (Unit) ⊕ (Bool)) (fun self1 x0 =>
    bif decide (x0 < (a1.length : Int)) then
     Option.bind (bnd a1.length x0 fun n2 =>
      Option.bind a1[n2]? fun y3 =>
      Option.bind (Option.bind (g_iin (y3, (0 : Int), x0)) fun r4 =>
       bif !r4.1 then
        some true
       else bnd a1.length y3 fun n5 =>
       Option.bind a1[n5]? fun y6 =>
       some (!decide (y6 = y3)) : Option (Bool)) fun x7 =>
      bif x7 then
       some (Sum.inr false)
      else some (Sum.inl ()) : Option ((Unit) ⊕ (Bool))) fun y => match y with
     | .inl x8 =>
      self1 (IntKind.wrap .i64 (x0 + (1 : Int)))
     | .inr x8 =>
      some (Sum.inr x8)
    else some (Sum.inl ())) (0 : Int) : Option ((Unit) ⊕ (Bool))) fun y => match y with
  | .inl x9 =>
   some (true, ())
  | .inr x9 =>
   some (x9, ()) := by kernel_rfl
/- impl.AnswerOk -/
def c_iAnswerOk : TC :=
 (.seq (.rg [o1 3 (.a (.t 1)),
   o1 4 (.lit [.b] [.bool false])])
 (.seq (.join [⟨4, [.b], false⟩] 16777200 none (.rg [o1 5 (.copy 0),
   o3 6 161 [.t 5, .c [.i .i64] [.int .i64 (1)], .c [.i .i64] [.int .i64 (12)]],
   o1 7 (.copy 6),
   o2 8 (.idx .nil) 2 true,
   o2 9 (.load 3 [] 0 (.t 8) 1 false) 2 true,
   ⟨false, [], [], .call 1 161 [.t 9, .c [.i .i64] [.int .i64 (1)], .c [.i .i64] [.int .i64 (100000)]] .no, [10], (some 10), some (2, true)⟩,
   ⟨false, [], [], .pick 7 (.t 10) (.c (.bool false)), [11], (some 11), none⟩,
   o1 12 (.copy 11),
   o2 13 (.copy 0) 7 true,
   o2 14 (.idx .nil) 7 true,
   o2 15 (.load 3 [] 2 (.t 14) 1 false) 7 true,
   ⟨false, [], [], .call 1 255 [.t 13, .t 15] .no, [16], (some 16), some (7, true)⟩,
   ⟨false, [], [], .pick 12 (.t 16) (.c (.bool false)), [17], (some 17), none⟩,
   o1 18 (.copy 17),
   o2 19 (.copy 0) 13 true,
   o2 20 (.idx .nil) 13 true,
   o2 21 (.load 3 [] 3 (.t 20) 1 false) 13 true,
   ⟨false, [], [], .call 1 205 [.t 19, .t 21] .no, [22], (some 22), some (13, true)⟩,
   ⟨false, [], [], .pick 18 (.t 22) (.c (.bool false)), [23], (some 23), none⟩,
   o1 4 (.copy 23)]))
 .ret))
def s_iAnswerOk : Sig := ⟨[.rd false [.d], .rd true [.d, .d, .sl (.own none) [.d, .d], .sl (.own none) [.d]]], (.one false [.d])⟩
noncomputable def E_iAnswerOk : TEnv := envOf [(161, p_iin), (255, p_iedgesOk), (205, p_ilabelsOk)]
noncomputable def f_iAnswerOk (n : Nat) : Int × (Int × Bool × List (Int × Int) × List (Int)) → Option ((Bool) × Unit) := runFn n E_iAnswerOk c_iAnswerOk [[.i .i64], [.i .i64, .b, .sl [.i .i64, .i .i64], .sl [.i .i64]]] [.b] [] [4] .no
noncomputable def g_iAnswerOk := f_iAnswerOk BIG
noncomputable def p_iAnswerOk : TSp := ⟨s_iAnswerOk, [[.i .i64], [.i .i64, .b, .sl [.i .i64, .i .i64], .sl [.i .i64]]], [.b], [], Ou.j .no, g_iAnswerOk⟩
theorem k_iAnswerOk : chkW PG E_iAnswerOk 121 s_iAnswerOk (c_iAnswerOk.ht 24) .no = some (c_iAnswerOk.wc E_iAnswerOk, [4]) := by kernel_rfl
theorem ok_iAnswerOk : p_iAnswerOk.Ok PG 121 := mkOk (env_cons ok_iin (env_cons ok_iedgesOk (env_cons ok_ilabelsOk (env_nil PG)))) k_iAnswerOk (by kernel_rfl)
theorem e_iAnswerOk (n : Nat) (a0 : Int) (a1 : Int × Bool × List (Int × Int) × List (Int)) : f_iAnswerOk n (a0, a1) =
  Option.bind (Option.bind (g_iin (a0, (1 : Int), (12 : Int))) fun r0 =>
   bif r0.1 then
    Option.bind (g_iin (a1.1, (1 : Int), (100000 : Int))) fun r1 =>
    bif r1.1 then
     Option.bind (g_iedgesOk (a0, a1.2.2.1)) fun r2 =>
     bif r2.1 then
      Option.bind (g_ilabelsOk (a0, a1.2.2.2)) fun r3 =>
      some r3.1
     else some false
    else some false
   else some false : Option (Bool)) fun x4 =>
  some (x4, ()) := by kernel_rfl
/- impl.edgesText -/
def c_iedgesText : TC :=
 (.seq (.rg [o1 2 (.lit [.s] [.string ⟨#[]⟩])])
 (.seq (.rg [o1 8 (.copy 0),
   o1 9 (.len 8),
   o3 10 237 [.t 9],
   ⟨false, [], [], .det 2 (.copy 10), [7, 10], (some 7), none⟩,
   o1 11 (.ext 7 0 1),
   o1 12 (.ext 7 1 1),
   o1 3 (.copy 11),
   o1 4 (.copy 12)])
 (.seq (.join [⟨3, [.s], false⟩] 1073733704 none (.seq (.rg [o1 13 (.copy 0),
   o1 14 (.len 13),
   o1 15 (.lit [.i .i64] [.int .i64 (0)])])
 (.block 0 (.loop [⟨3, [.s], false⟩, ⟨15, [.i .i64], false⟩] 1073709128
  (.seq (.rg [o1 16 (.data (.bin .lss) [.t 15, .t 14])])
  (.seq (.cond (.t 16)
   .skip
   (.exit 0))
  (.seq (.block 1 (.seq (.rg [o1 17 (.index 13 (.t 15)),
    o1 18 (.load 13 [(0, 2)] 0 (.t 17) 2 false),
    ⟨false, [], [], .det 2 (.a (.c [.i .i64, .i .i64] [.int .i64 (0), .int .i64 (0)])), [6, 1000000001], (some 6), none⟩,
    o4 1 [6] (.store 6 [] 0 .nil (.t 18))])
  (.rg [o1 19 (.copy 3),
    o1 20 (.idx .nil),
    o1 21 (.load 6 [] 0 (.t 20) 1 false),
    o1 22 (.data (.conv .u8) [.t 21]),
    o1 23 (.idx .nil),
    o1 24 (.load 6 [] 1 (.t 23) 1 false),
    o1 25 (.data (.conv .u8) [.t 24]),
    o1 26 (.sli [.i .u8] [.t 22, .t 25]),
    o1 27 (.bytes 26),
    o1 28 (.data (.bin .add) [.t 19, .t 27]),
    o1 3 (.copy 28)])))
  (.rg [o1 29 (.data (.bin .add) [.t 15, .c (.int .i64 (1))]),
    o1 15 (.copy 29)]))))))))
 (.seq (.rg [o1 30 (.copy 3),
   o1 2 (.copy 30)])
 .ret))))
def s_iedgesText : Sig := ⟨[.rd false [.sl (.own none) [.d, .d]]], (.one false [.d])⟩
noncomputable def E_iedgesText : TEnv := envOf [(237, p_iVarText)]
noncomputable def f_iedgesText (n : Nat) : (List (Int × Int)) → Option ((ByteArray) × Unit) := runFn n E_iedgesText c_iedgesText [[.sl [.i .i64, .i .i64]]] [.s] [] [2] .no
noncomputable def g_iedgesText := f_iedgesText BIG
noncomputable def p_iedgesText : TSp := ⟨s_iedgesText, [[.sl [.i .i64, .i .i64]]], [.s], [], Ou.j .no, g_iedgesText⟩
theorem k_iedgesText : chkW PG E_iedgesText 254 s_iedgesText (c_iedgesText.ht 31) .no = some (c_iedgesText.wc E_iedgesText, [2]) := by kernel_rfl
theorem ok_iedgesText : p_iedgesText.Ok PG 254 := mkOk (env_cons ok_iVarText (env_nil PG)) k_iedgesText (by kernel_rfl)
theorem e_iedgesText (n : Nat) (a0 : List (Int × Int)) : f_iedgesText n a0 =
  Option.bind (g_iVarText (a0.length : Int)) fun r0 =>
  Option.bind (loopT n (X := ByteArray × Int) (B := ByteArray) (fun self2 x1 =>
    bif decide (x1.2 < (a0.length : Int)) then
     bnd a0.length x1.2 fun n3 =>
     Option.bind a0[n3]? fun y4 =>
     bif decide (x1.1.size + (bytesStr ([IntKind.wrap .u8 (y4.1), IntKind.wrap .u8 (y4.2)])).size ≤ 4611686018427387904) then
      self2 (x1.1 ++ (bytesStr ([IntKind.wrap .u8 (y4.1), IntKind.wrap .u8 (y4.2)])), IntKind.wrap .i64 (x1.2 + (1 : Int)))
     else none
    else some x1.1) (r0.1.1, (0 : Int)) : Option (ByteArray)) fun x5 =>
  some (x5, ()) := by kernel_rfl
/- impl.AnswerText -/
def c_iAnswerText : TC :=
 (.seq (.rg [o1 3 (.a (.t 1)),
   o1 4 (.lit [.s] [.string ⟨#[]⟩]),
   o1 5 (.lit [.b] [.bool false])])
 (.seq (.seq (.rg [o1 12 (.copy 0),
   o1 13 (.load 3 [] 0 .nil 4 false),
   o3 14 121 [.t 12, .t 13],
   o1 15 (.data .not [.t 14])])
 (.cond (.t 15)
  (.seq (.rg [o1 4 (.lit [.s] [.string ⟨#[]⟩]),
    o1 5 (.lit [.b] [.bool false])])
  .ret)
  .skip))
 (.seq (.rg [o1 17 (.idx .nil),
   o1 18 (.load 3 [] 0 (.t 17) 1 false),
   o3 19 237 [.t 18],
   ⟨false, [], [], .det 2 (.copy 19), [16, 19], (some 16), none⟩,
   o1 20 (.ext 16 0 1),
   o1 21 (.ext 16 1 1),
   o1 6 (.copy 20),
   o1 7 (.copy 21)])
 (.seq (.rg [o1 8 (.lit [.s] [.string ⟨#[0]⟩])])
 (.seq (.join [⟨8, [.s], false⟩] 12583168 none (.seq (.rg [o1 22 (.idx .nil),
   o1 23 (.load 3 [] 1 (.t 22) 1 false)])
 (.cond (.t 23)
  (.rg [o1 8 (.lit [.s] [.string ⟨#[1]⟩])])
  .skip)))
 (.seq (.rg [o1 24 (.copy 6),
   o1 25 (.copy 8),
   o1 26 (.data (.bin .add) [.t 24, .t 25]),
   o1 27 (.idx .nil),
   o1 28 (.load 3 [] 2 (.t 27) 1 false),
   o3 29 254 [.t 28],
   o1 30 (.data (.bin .add) [.t 26, .t 29]),
   o1 9 (.copy 30)])
 (.seq (.join [⟨9, [.s], false⟩] 35182224607744 none (.seq (.rg [o1 31 (.idx .nil),
   o1 32 (.load 3 [] 3 (.t 31) 1 false),
   o1 33 (.len 32),
   o1 34 (.lit [.i .i64] [.int .i64 (0)])])
 (.block 0 (.loop [⟨9, [.s], false⟩, ⟨34, [.i .i64], false⟩] 35167192222208
  (.seq (.rg [o1 35 (.data (.bin .lss) [.t 34, .t 33])])
  (.seq (.cond (.t 35)
   .skip
   (.exit 0))
  (.seq (.block 1 (.seq (.rg [o1 36 (.index 32 (.t 34)),
    o1 37 (.load 32 [(0, 1)] 0 (.t 36) 1 false),
    o1 11 (.copy 37)])
  (.rg [o1 38 (.copy 9),
    o1 39 (.copy 11),
    o1 40 (.data (.conv .u8) [.t 39]),
    o1 41 (.sli [.i .u8] [.t 40]),
    o1 42 (.bytes 41),
    o1 43 (.data (.bin .add) [.t 38, .t 42]),
    o1 9 (.copy 43)])))
  (.rg [o1 44 (.data (.bin .add) [.t 34, .c (.int .i64 (1))]),
    o1 34 (.copy 44)]))))))))
 (.seq (.rg [o1 45 (.copy 9),
   o1 4 (.copy 45),
   o1 5 (.lit [.b] [.bool true])])
 .ret))))))))
def s_iAnswerText : Sig := ⟨[.rd false [.d], .rd true [.d, .d, .sl (.own none) [.d, .d], .sl (.own none) [.d]]], (.tup [(false, 1), (false, 1)] [.d, .d])⟩
noncomputable def E_iAnswerText : TEnv := envOf [(121, p_iAnswerOk), (237, p_iVarText), (254, p_iedgesText)]
noncomputable def f_iAnswerText (n : Nat) : Int × (Int × Bool × List (Int × Int) × List (Int)) → Option ((ByteArray × Bool) × Unit) := runFn n E_iAnswerText c_iAnswerText [[.i .i64], [.i .i64, .b, .sl [.i .i64, .i .i64], .sl [.i .i64]]] [.s, .b] [] [4, 5] .no
noncomputable def g_iAnswerText := f_iAnswerText BIG
noncomputable def p_iAnswerText : TSp := ⟨s_iAnswerText, [[.i .i64], [.i .i64, .b, .sl [.i .i64, .i .i64], .sl [.i .i64]]], [.s, .b], [], Ou.j .no, g_iAnswerText⟩
theorem k_iAnswerText : chkW PG E_iAnswerText 119 s_iAnswerText (c_iAnswerText.ht 46) .no = some (c_iAnswerText.wc E_iAnswerText, [4, 5]) := by kernel_rfl
theorem ok_iAnswerText : p_iAnswerText.Ok PG 119 := mkOk (env_cons ok_iAnswerOk (env_cons ok_iVarText (env_cons ok_iedgesText (env_nil PG)))) k_iAnswerText (by kernel_rfl)
theorem e_iAnswerText (n : Nat) (a0 : Int) (a1 : Int × Bool × List (Int × Int) × List (Int)) : f_iAnswerText n (a0, a1) =
  Option.bind (g_iAnswerOk (a0, a1)) fun r0 =>
  bif !r0.1 then
   some (((ByteArray.mk #[]), false), ())
  else Option.bind (g_iVarText a1.1) fun r1 =>
  Option.bind (bif a1.2.1 then
    some (ByteArray.mk #[1])
   else some (ByteArray.mk #[0]) : Option (ByteArray)) fun x2 =>
  bif decide (r1.1.1.size + x2.size ≤ 4611686018427387904) then
   Option.bind (g_iedgesText a1.2.2.1) fun r3 =>
   bif decide ((r1.1.1 ++ x2).size + r3.1.size ≤ 4611686018427387904) then
    Option.bind (loopT n (X := ByteArray × Int) (B := ByteArray) (fun self5 x4 =>
      bif decide (x4.2 < (a1.2.2.2.length : Int)) then
       bnd a1.2.2.2.length x4.2 fun n6 =>
       Option.bind a1.2.2.2[n6]? fun y7 =>
       bif decide (x4.1.size + (bytesStr ([IntKind.wrap .u8 (y7)])).size ≤ 4611686018427387904) then
        self5 (x4.1 ++ (bytesStr ([IntKind.wrap .u8 (y7)])), IntKind.wrap .i64 (x4.2 + (1 : Int)))
       else none
      else some x4.1) ((r1.1.1 ++ x2) ++ r3.1, (0 : Int)) : Option (ByteArray)) fun x8 =>
    some ((x8, true), ())
   else none
  else none := by kernel_rfl
/- impl.ShortText -/
def c_iShortText : TC :=
 (.seq (.rg [o1 2 (.lit [.s] [.string ⟨#[]⟩]),
   o1 3 (.lit [.b] [.bool false])])
 (.seq (.seq (.rg [o1 6 (.copy 0),
   o1 7 (.data .slen [.t 6]),
   o1 8 (.data (.bin .gtr) [.t 7, .c (.int .i64 (20000))])])
 (.cond (.t 8)
  (.seq (.rg [o1 2 (.lit [.s] [.string ⟨#[]⟩]),
    o1 3 (.lit [.b] [.bool false])])
  .ret)
  .skip))
 (.seq (.rg [o1 10 (.copy 0),
   o1 11 (.data .slen [.t 10]),
   o3 12 237 [.t 11],
   ⟨false, [], [], .det 2 (.copy 12), [9, 12], (some 9), none⟩,
   o1 13 (.ext 9 0 1),
   o1 14 (.ext 9 1 1),
   o1 4 (.copy 13),
   o1 5 (.copy 14)])
 (.seq (.rg [o1 15 (.copy 4),
   o1 16 (.copy 0),
   o1 17 (.data (.bin .add) [.t 15, .t 16]),
   o1 2 (.copy 17),
   o1 3 (.lit [.b] [.bool true])])
 .ret))))
def s_iShortText : Sig := ⟨[.rd false [.d]], (.tup [(false, 1), (false, 1)] [.d, .d])⟩
noncomputable def E_iShortText : TEnv := envOf [(237, p_iVarText)]
noncomputable def f_iShortText (n : Nat) : ByteArray → Option ((ByteArray × Bool) × Unit) := runFn n E_iShortText c_iShortText [[.s]] [.s, .b] [] [2, 3] .no
noncomputable def g_iShortText := f_iShortText BIG
noncomputable def p_iShortText : TSp := ⟨s_iShortText, [[.s]], [.s, .b], [], Ou.j .no, g_iShortText⟩
theorem k_iShortText : chkW PG E_iShortText 238 s_iShortText (c_iShortText.ht 18) .no = some (c_iShortText.wc E_iShortText, [2, 3]) := by kernel_rfl
theorem ok_iShortText : p_iShortText.Ok PG 238 := mkOk (env_cons ok_iVarText (env_nil PG)) k_iShortText (by kernel_rfl)
theorem e_iShortText (n : Nat) (a0 : ByteArray) : f_iShortText n a0 =
  bif decide ((20000 : Int) < (a0.size : Int)) then
   some (((ByteArray.mk #[]), false), ())
  else Option.bind (g_iVarText (a0.size : Int)) fun r0 =>
  bif decide (r0.1.1.size + a0.size ≤ 4611686018427387904) then
   some ((r0.1.1 ++ a0, true), ())
  else none := by kernel_rfl
/- impl.OrderOk -/
def c_iOrderOk : TC :=
 (.seq (.rg [o1 3 (.a (.t 1)),
   o1 4 (.lit [.b] [.bool false])])
 (.seq (.seq (.join [⟨30, [.b], false⟩] 2147483616 none (.rg [o1 5 (.copy 0),
   o3 6 161 [.t 5, .c [.i .i64] [.int .i64 (1)], .c [.i .i64] [.int .i64 (12)]],
   o1 7 (.data .not [.t 6]),
   o1 8 (.copy 7),
   o2 9 (.idx .nil) 3 false,
   o2 10 (.load 3 [] 0 (.t 9) 1 false) 3 false,
   ⟨false, [], [], .call 1 161 [.t 10, .c [.i .i64] [.int .i64 (1)], .c [.i .i64] [.int .i64 (100000)]] .no, [11], (some 11), some (3, false)⟩,
   o2 12 (.data .not [.t 11]) 3 false,
   ⟨false, [], [], .pick 8 (.c (.bool true)) (.t 12), [13], (some 13), none⟩,
   o1 14 (.copy 13),
   o2 15 (.copy 0) 9 false,
   o2 16 (.idx .nil) 9 false,
   o2 17 (.load 3 [] 2 (.t 16) 1 false) 9 false,
   ⟨false, [], [], .call 1 255 [.t 15, .t 17] .no, [18], (some 18), some (9, false)⟩,
   o2 19 (.data .not [.t 18]) 9 false,
   ⟨false, [], [], .pick 14 (.c (.bool true)) (.t 19), [20], (some 20), none⟩,
   o1 21 (.copy 20),
   o2 22 (.idx .nil) 16 false,
   o2 23 (.load 3 [] 3 (.t 22) 1 false) 16 false,
   o2 24 (.data (.bin .neq) [.t 23, .c (.int .i64 (0))]) 16 false,
   o2 25 (.copy 24) 16 false,
   o2 26 (.idx .nil) 20 true,
   o2 27 (.load 3 [] 1 (.t 26) 1 false) 20 true,
   o2 28 (.data (.bin .neq) [.t 27, .c (.int .i64 (3))]) 20 true,
   ⟨false, [], [], .pick 25 (.t 28) (.c (.bool false)), [29], (some 29), some (16, false)⟩,
   ⟨false, [], [], .pick 21 (.c (.bool true)) (.t 29), [30], (some 30), none⟩]))
 (.cond (.t 30)
  (.seq (.rg [o1 4 (.lit [.b] [.bool false])])
  .ret)
  .skip))
 (.seq (.join [] 576460750155939856 (some [⟨4, [.b], false⟩]) (.seq (.rg [o1 31 (.idx .nil),
   o1 32 (.load 3 [] 1 (.t 31) 1 false)])
 (.block 0 (.seq (.join [⟨33, [.b], false⟩] 60129542144 none (.seq (.rg [o1 34 (.data (.bin .eql) [.t 32, .c (.int .i64 (1))]),
   o1 33 (.copy 34)])
 (.cond (.t 33)
  .skip
  (.rg [o1 35 (.data (.bin .eql) [.t 32, .c (.int .i64 (2))]),
    o1 33 (.copy 35)]))))
 (.cond (.t 33)
  (.seq (.rg [o1 36 (.idx .nil),
    o1 37 (.load 3 [] 2 (.t 36) 1 false),
    o1 38 (.len 37),
    o1 39 (.data (.bin .eql) [.t 38, .c (.int .i64 (1))]),
    o1 4 (.copy 39)])
  .ret)
  (.seq (.rg [o1 41 (.data (.bin .eql) [.t 32, .c (.int .i64 (3))]),
    o1 40 (.copy 41)])
  (.cond (.t 40)
   (.seq (.join [⟨4, [.b], false⟩] 9002801208229904 none (.rg [o1 42 (.idx .nil),
     o1 43 (.load 3 [] 2 (.t 42) 1 false),
     o1 44 (.len 43),
     o1 45 (.data (.bin .eql) [.t 44, .c (.int .i64 (0))]),
     o1 46 (.copy 45),
     o2 47 (.idx .nil) 4 true,
     o2 48 (.load 3 [] 3 (.t 47) 1 false) 4 true,
     o2 49 (.copy 0) 4 true,
     o2 50 (.data (.bin .sub) [.t 49, .c (.int .i64 (1))]) 4 true,
     ⟨false, [], [], .call 1 161 [.t 48, .c [.i .i64] [.int .i64 (0)], .t 50] .no, [51], (some 51), some (4, true)⟩,
     ⟨false, [], [], .pick 46 (.t 51) (.c (.bool false)), [52], (some 52), none⟩,
     o1 4 (.copy 52)]))
   .ret)
   (.seq (.rg [o1 54 (.data (.bin .eql) [.t 32, .c (.int .i64 (4))]),
     o1 53 (.copy 54)])
   (.cond (.t 53)
    (.seq (.rg [o1 55 (.idx .nil),
      o1 56 (.load 3 [] 2 (.t 55) 1 false),
      o1 57 (.len 56),
      o1 58 (.data (.bin .gtr) [.t 57, .c (.int .i64 (0))]),
      o1 4 (.copy 58)])
    .ret)
    .skip)))))))))
 (.seq (.rg [o1 4 (.lit [.b] [.bool false])])
 .ret))))
def s_iOrderOk : Sig := ⟨[.rd false [.d], .rd true [.d, .d, .sl (.own none) [.d, .d], .d]], (.one false [.d])⟩
noncomputable def E_iOrderOk : TEnv := envOf [(161, p_iin), (255, p_iedgesOk)]
noncomputable def f_iOrderOk (n : Nat) : Int × (Int × Int × List (Int × Int) × Int) → Option ((Bool) × Unit) := runFn n E_iOrderOk c_iOrderOk [[.i .i64], [.i .i64, .i .i64, .sl [.i .i64, .i .i64], .i .i64]] [.b] [] [4] .no
noncomputable def g_iOrderOk := f_iOrderOk BIG
noncomputable def p_iOrderOk : TSp := ⟨s_iOrderOk, [[.i .i64], [.i .i64, .i .i64, .sl [.i .i64, .i .i64], .i .i64]], [.b], [], Ou.j .no, g_iOrderOk⟩
theorem k_iOrderOk : chkW PG E_iOrderOk 117 s_iOrderOk (c_iOrderOk.ht 59) .no = some (c_iOrderOk.wc E_iOrderOk, [4]) := by kernel_rfl
theorem ok_iOrderOk : p_iOrderOk.Ok PG 117 := mkOk (env_cons ok_iin (env_cons ok_iedgesOk (env_nil PG))) k_iOrderOk (by kernel_rfl)
theorem e_iOrderOk (n : Nat) (a0 : Int) (a1 : Int × Int × List (Int × Int) × Int) : f_iOrderOk n (a0, a1) =
  Option.bind (Option.bind (g_iin (a0, (1 : Int), (12 : Int))) fun r0 =>
   bif !r0.1 then
    some true
   else Option.bind (g_iin (a1.1, (1 : Int), (100000 : Int))) fun r1 =>
   bif !r1.1 then
    some true
   else Option.bind (g_iedgesOk (a0, a1.2.2.1)) fun r2 =>
   bif !r2.1 then
    some true
   else bif !decide (a1.2.2.2 = (0 : Int)) then
    some (!decide (a1.2.1 = (3 : Int)))
   else some false : Option (Bool)) fun x3 =>
  bif x3 then
   some (false, ())
  else Option.bind (Option.bind (bif decide (a1.2.1 = (1 : Int)) then
     some true
    else some (decide (a1.2.1 = (2 : Int))) : Option (Bool)) fun x4 =>
   bif x4 then
    some (Sum.inr (decide ((a1.2.2.1.length : Int) = (1 : Int))))
   else bif decide (a1.2.1 = (3 : Int)) then
    Option.bind (bif decide ((a1.2.2.1.length : Int) = (0 : Int)) then
      Option.bind (g_iin (a1.2.2.2, (0 : Int), IntKind.wrap .i64 (a0 - (1 : Int)))) fun r5 =>
      some r5.1
     else some false : Option (Bool)) fun x6 =>
    some (Sum.inr x6)
   else bif decide (a1.2.1 = (4 : Int)) then
    some (Sum.inr (decide ((0 : Int) < (a1.2.2.1.length : Int))))
   else some (Sum.inl ()) : Option ((Unit) ⊕ (Bool))) fun y => match y with
  | .inl x7 =>
   some (false, ())
  | .inr x7 =>
   some (x7, ()) := by kernel_rfl
/- impl.OrderText -/
def c_iOrderText : TC :=
 (.seq (.rg [o1 3 (.a (.t 1)),
   o1 4 (.lit [.s] [.string ⟨#[]⟩]),
   o1 5 (.lit [.b] [.bool false])])
 (.seq (.seq (.rg [o1 10 (.copy 0),
   o1 11 (.load 3 [] 0 .nil 4 false),
   o3 12 117 [.t 10, .t 11],
   o1 13 (.data .not [.t 12])])
 (.cond (.t 13)
  (.seq (.rg [o1 4 (.lit [.s] [.string ⟨#[]⟩]),
    o1 5 (.lit [.b] [.bool false])])
  .ret)
  .skip))
 (.seq (.rg [o1 15 (.idx .nil),
   o1 16 (.load 3 [] 0 (.t 15) 1 false),
   o3 17 237 [.t 16],
   ⟨false, [], [], .det 2 (.copy 17), [14, 17], (some 14), none⟩,
   o1 18 (.ext 14 0 1),
   o1 19 (.ext 14 1 1),
   o1 6 (.copy 18),
   o1 7 (.copy 19)])
 (.seq (.rg [o1 21 (.idx .nil),
   o1 22 (.load 3 [] 3 (.t 21) 1 false),
   o3 23 237 [.t 22],
   ⟨false, [], [], .det 2 (.copy 23), [20, 23], (some 20), none⟩,
   o1 24 (.ext 20 0 1),
   o1 25 (.ext 20 1 1),
   o1 8 (.copy 24),
   o1 9 (.copy 25)])
 (.seq (.rg [o1 26 (.copy 6),
   o1 27 (.idx .nil),
   o1 28 (.load 3 [] 1 (.t 27) 1 false),
   o1 29 (.data (.conv .u8) [.t 28]),
   o1 30 (.sli [.i .u8] [.t 29]),
   o1 31 (.bytes 30),
   o1 32 (.data (.bin .add) [.t 26, .t 31]),
   o1 33 (.copy 8),
   o1 34 (.data (.bin .add) [.t 32, .t 33]),
   o1 35 (.idx .nil),
   o1 36 (.load 3 [] 2 (.t 35) 1 false),
   o3 37 254 [.t 36],
   o1 38 (.data (.bin .add) [.t 34, .t 37]),
   o1 4 (.copy 38),
   o1 5 (.lit [.b] [.bool true])])
 .ret)))))
def s_iOrderText : Sig := ⟨[.rd false [.d], .rd true [.d, .d, .sl (.own none) [.d, .d], .d]], (.tup [(false, 1), (false, 1)] [.d, .d])⟩
noncomputable def E_iOrderText : TEnv := envOf [(117, p_iOrderOk), (237, p_iVarText), (254, p_iedgesText)]
noncomputable def f_iOrderText (n : Nat) : Int × (Int × Int × List (Int × Int) × Int) → Option ((ByteArray × Bool) × Unit) := runFn n E_iOrderText c_iOrderText [[.i .i64], [.i .i64, .i .i64, .sl [.i .i64, .i .i64], .i .i64]] [.s, .b] [] [4, 5] .no
noncomputable def g_iOrderText := f_iOrderText BIG
noncomputable def p_iOrderText : TSp := ⟨s_iOrderText, [[.i .i64], [.i .i64, .i .i64, .sl [.i .i64, .i .i64], .i .i64]], [.s, .b], [], Ou.j .no, g_iOrderText⟩
theorem k_iOrderText : chkW PG E_iOrderText 115 s_iOrderText (c_iOrderText.ht 39) .no = some (c_iOrderText.wc E_iOrderText, [4, 5]) := by kernel_rfl
theorem ok_iOrderText : p_iOrderText.Ok PG 115 := mkOk (env_cons ok_iOrderOk (env_cons ok_iVarText (env_cons ok_iedgesText (env_nil PG)))) k_iOrderText (by kernel_rfl)
theorem e_iOrderText (n : Nat) (a0 : Int) (a1 : Int × Int × List (Int × Int) × Int) : f_iOrderText n (a0, a1) =
  Option.bind (g_iOrderOk (a0, a1)) fun r0 =>
  bif !r0.1 then
   some (((ByteArray.mk #[]), false), ())
  else Option.bind (g_iVarText a1.1) fun r1 =>
  Option.bind (g_iVarText a1.2.2.2) fun r2 =>
  bif decide (r1.1.1.size + (bytesStr ([IntKind.wrap .u8 (a1.2.1)])).size ≤ 4611686018427387904) then
   bif decide ((r1.1.1 ++ (bytesStr ([IntKind.wrap .u8 (a1.2.1)]))).size + r2.1.1.size ≤ 4611686018427387904) then
    Option.bind (g_iedgesText a1.2.2.1) fun r3 =>
    bif decide (((r1.1.1 ++ (bytesStr ([IntKind.wrap .u8 (a1.2.1)]))) ++ r2.1.1).size + r3.1.size ≤ 4611686018427387904) then
     some ((((r1.1.1 ++ (bytesStr ([IntKind.wrap .u8 (a1.2.1)]))) ++ r2.1.1) ++ r3.1, true), ())
    else none
   else none
  else none := by kernel_rfl
/- impl.RecText -/
def c_iRecText : TC :=
 (.seq (.rg [o1 3 (.a (.t 1)),
   o1 4 (.lit [.s] [.string ⟨#[]⟩]),
   o1 5 (.lit [.b] [.bool false])])
 (.seq (.rg [o1 6 (.lit [.s] [.string ⟨#[]⟩]),
   o1 7 (.lit [.b] [.bool false])])
 (.seq (.join [⟨6, [.s], false⟩, ⟨7, [.b], false⟩] 664613997892457936451903530140172224 none (.block 0 (.seq (.join [⟨18, [.b], false⟩] 137438691328 none (.rg [o1 19 (.idx .nil),
   o1 20 (.load 3 [] 0 (.t 19) 1 false),
   o1 21 (.data (.bin .eql) [.t 20, .c (.int .i64 (1))]),
   o1 22 (.copy 21),
   o2 23 (.idx .nil) 3 true,
   o2 24 (.load 3 [] 5 (.t 23) 1 false) 3 true,
   o2 25 (.data (.bin .eql) [.t 24, .c (.int .i64 (0))]) 3 true,
   ⟨false, [], [], .pick 22 (.t 25) (.c (.bool false)), [26], (some 26), none⟩,
   o1 27 (.copy 26),
   o2 28 (.idx .nil) 8 true,
   o2 29 (.load 3 [] 6 (.t 28) 4 false) 8 true,
   ⟨false, [], [], .call 1 164 [.t 29] .no, [30], (some 30), some (8, true)⟩,
   ⟨false, [], [], .pick 27 (.t 30) (.c (.bool false)), [31], (some 31), none⟩,
   o1 32 (.copy 31),
   o2 33 (.idx .nil) 13 true,
   o2 34 (.load 3 [] 10 (.t 33) 4 false) 13 true,
   ⟨false, [], [], .call 1 235 [.t 34] .no, [35], (some 35), some (13, true)⟩,
   ⟨false, [], [], .pick 32 (.t 35) (.c (.bool false)), [36], (some 36), none⟩,
   o1 18 (.copy 36)]))
 (.cond (.t 18)
  (.rg [o1 38 (.idx .nil),
    o1 39 (.load 3 [] 1 (.t 38) 4 false),
    o3 40 236 [.t 39],
    ⟨false, [], [], .det 2 (.copy 40), [37, 40], (some 37), none⟩,
    o1 41 (.ext 37 0 1),
    o1 42 (.ext 37 1 1),
    o1 6 (.copy 41),
    o1 7 (.copy 42)])
  (.seq (.join [⟨43, [.b], false⟩] 9223363240761753600 none (.rg [o1 44 (.idx .nil),
    o1 45 (.load 3 [] 0 (.t 44) 1 false),
    o1 46 (.data (.bin .eql) [.t 45, .c (.int .i64 (2))]),
    o1 47 (.copy 46),
    o2 48 (.idx .nil) 3 true,
    o2 49 (.load 3 [] 1 (.t 48) 4 false) 3 true,
    o2 50 (.build [.i .i64, .i .i64, .i .i64, .i .i64] []) 3 true,
    o2 51 (.eqA [.i, .i, .i, .i] (.t 49) (.t 50) false) 3 true,
    ⟨false, [], [], .pick 47 (.t 51) (.c (.bool false)), [52], (some 52), none⟩,
    o1 53 (.copy 52),
    o2 54 (.idx .nil) 9 true,
    o2 55 (.load 3 [] 10 (.t 54) 4 false) 9 true,
    ⟨false, [], [], .call 1 235 [.t 55] .no, [56], (some 56), some (9, true)⟩,
    ⟨false, [], [], .pick 53 (.t 56) (.c (.bool false)), [57], (some 57), none⟩,
    o1 58 (.copy 57),
    o2 59 (.idx .nil) 14 true,
    o2 60 (.load 3 [] 5 (.t 59) 1 false) 14 true,
    ⟨false, [], [], .call 1 161 [.t 60, .c [.i .i64] [.int .i64 (0)], .c [.i .i64] [.int .i64 (100000)]] .no, [61], (some 61), some (14, true)⟩,
    ⟨false, [], [], .pick 58 (.t 61) (.c (.bool false)), [62], (some 62), none⟩,
    o1 43 (.copy 62)]))
  (.cond (.t 43)
   (.seq (.rg [o1 64 (.idx .nil),
     o1 65 (.load 3 [] 5 (.t 64) 1 false),
     o3 66 237 [.t 65],
     ⟨false, [], [], .det 2 (.copy 66), [63, 66], (some 63), none⟩,
     o1 67 (.ext 63 0 1),
     o1 68 (.ext 63 1 1),
     o1 8 (.copy 67),
     o1 9 (.copy 68)])
   (.seq (.rg [o1 70 (.copy 0),
     o1 71 (.idx .nil),
     o1 72 (.load 3 [] 6 (.t 71) 4 false),
     o3 73 119 [.t 70, .t 72],
     ⟨false, [], [], .det 2 (.copy 73), [69, 73], (some 69), none⟩,
     o1 74 (.ext 69 0 1),
     o1 75 (.ext 69 1 1),
     o1 10 (.copy 74),
     o1 11 (.copy 75)])
   (.seq (.rg [o1 77 (.copy 10),
     o3 78 238 [.t 77],
     ⟨false, [], [], .det 2 (.copy 78), [76, 78], (some 76), none⟩,
     o1 79 (.ext 76 0 1),
     o1 80 (.ext 76 1 1),
     o1 12 (.copy 79),
     o1 13 (.copy 80)])
   (.rg [o1 81 (.copy 8),
     o1 82 (.copy 12),
     o1 83 (.data (.bin .add) [.t 81, .t 82]),
     o1 84 (.copy 11),
     o1 6 (.copy 83),
     o1 7 (.copy 84)]))))
   (.seq (.join [⟨85, [.b], false⟩] 40564780521677113179760911974400 none (.rg [o1 86 (.idx .nil),
     o1 87 (.load 3 [] 0 (.t 86) 1 false),
     o1 88 (.data (.bin .eql) [.t 87, .c (.int .i64 (3))]),
     o1 89 (.copy 88),
     o2 90 (.idx .nil) 3 true,
     o2 91 (.load 3 [] 1 (.t 90) 4 false) 3 true,
     o2 92 (.build [.i .i64, .i .i64, .i .i64, .i .i64] []) 3 true,
     o2 93 (.eqA [.i, .i, .i, .i] (.t 91) (.t 92) false) 3 true,
     ⟨false, [], [], .pick 89 (.t 93) (.c (.bool false)), [94], (some 94), none⟩,
     o1 95 (.copy 94),
     o2 96 (.idx .nil) 9 true,
     o2 97 (.load 3 [] 5 (.t 96) 1 false) 9 true,
     o2 98 (.data (.bin .eql) [.t 97, .c (.int .i64 (0))]) 9 true,
     ⟨false, [], [], .pick 95 (.t 98) (.c (.bool false)), [99], (some 99), none⟩,
     o1 100 (.copy 99),
     o2 101 (.idx .nil) 14 true,
     o2 102 (.load 3 [] 6 (.t 101) 4 false) 14 true,
     ⟨false, [], [], .call 1 164 [.t 102] .no, [103], (some 103), some (14, true)⟩,
     ⟨false, [], [], .pick 100 (.t 103) (.c (.bool false)), [104], (some 104), none⟩,
     o1 85 (.copy 104)]))
   (.cond (.t 85)
    (.seq (.rg [o1 106 (.copy 0),
      o1 107 (.idx .nil),
      o1 108 (.load 3 [] 10 (.t 107) 4 false),
      o3 109 115 [.t 106, .t 108],
      ⟨false, [], [], .det 2 (.copy 109), [105, 109], (some 105), none⟩,
      o1 110 (.ext 105 0 1),
      o1 111 (.ext 105 1 1),
      o1 14 (.copy 110),
      o1 15 (.copy 111)])
    (.seq (.rg [o1 113 (.copy 14),
      o3 114 238 [.t 113],
      ⟨false, [], [], .det 2 (.copy 114), [112, 114], (some 112), none⟩,
      o1 115 (.ext 112 0 1),
      o1 116 (.ext 112 1 1),
      o1 16 (.copy 115),
      o1 17 (.copy 116)])
    (.rg [o1 117 (.copy 16),
      o1 118 (.copy 15),
      o1 6 (.copy 117),
      o1 7 (.copy 118)])))
    .skip))))))))
 (.seq (.seq (.rg [o1 119 (.copy 7),
   o1 120 (.data .not [.t 119])])
 (.cond (.t 120)
  (.seq (.rg [o1 4 (.lit [.s] [.string ⟨#[]⟩]),
    o1 5 (.lit [.b] [.bool false])])
  .ret)
  .skip))
 (.seq (.rg [o1 121 (.idx .nil),
   o1 122 (.load 3 [] 0 (.t 121) 1 false),
   o1 123 (.data (.conv .u8) [.t 122]),
   o1 124 (.sli [.i .u8] [.t 123]),
   o1 125 (.bytes 124),
   o1 126 (.copy 6),
   o1 127 (.data (.bin .add) [.t 125, .t 126]),
   o1 4 (.copy 127),
   o1 5 (.lit [.b] [.bool true])])
 .ret)))))
def s_iRecText : Sig := ⟨[.rd false [.d], .rd true [.d, .d, .d, .d, .d, .d, .d, .d, .sl (.own none) [.d, .d], .sl (.own none) [.d], .d, .d, .sl (.own none) [.d, .d], .d]], (.tup [(false, 1), (false, 1)] [.d, .d])⟩
noncomputable def E_iRecText : TEnv := envOf [(164, p_inoAnswer), (235, p_inoOrder), (236, p_iaskText), (161, p_iin), (237, p_iVarText), (119, p_iAnswerText), (238, p_iShortText), (115, p_iOrderText)]
noncomputable def f_iRecText (n : Nat) : Int × (Int × Int × Int × Int × Int × Int × Int × Bool × List (Int × Int) × List (Int) × Int × Int × List (Int × Int) × Int) → Option ((ByteArray × Bool) × Unit) := runFn n E_iRecText c_iRecText [[.i .i64], [.i .i64, .i .i64, .i .i64, .i .i64, .i .i64, .i .i64, .i .i64, .b, .sl [.i .i64, .i .i64], .sl [.i .i64], .i .i64, .i .i64, .sl [.i .i64, .i .i64], .i .i64]] [.s, .b] [] [4, 5] .no
noncomputable def g_iRecText := f_iRecText BIG
noncomputable def p_iRecText : TSp := ⟨s_iRecText, [[.i .i64], [.i .i64, .i .i64, .i .i64, .i .i64, .i .i64, .i .i64, .i .i64, .b, .sl [.i .i64, .i .i64], .sl [.i .i64], .i .i64, .i .i64, .sl [.i .i64, .i .i64], .i .i64]], [.s, .b], [], Ou.j .no, g_iRecText⟩
theorem k_iRecText : chkW PG E_iRecText 101 s_iRecText (c_iRecText.ht 128) .no = some (c_iRecText.wc E_iRecText, [4, 5]) := by kernel_rfl
theorem ok_iRecText : p_iRecText.Ok PG 101 := mkOk (env_cons ok_inoAnswer (env_cons ok_inoOrder (env_cons ok_iaskText (env_cons ok_iin (env_cons ok_iVarText (env_cons ok_iAnswerText (env_cons ok_iShortText (env_cons ok_iOrderText (env_nil PG))))))))) k_iRecText (by kernel_rfl)
theorem e_iRecText (n : Nat) (a0 : Int) (a1 : Int × Int × Int × Int × Int × Int × Int × Bool × List (Int × Int) × List (Int) × Int × Int × List (Int × Int) × Int) : f_iRecText n (a0, a1) =
  Option.bind (Option.bind (bif decide (a1.1 = (1 : Int)) then
     bif decide (a1.2.2.2.2.2.1 = (0 : Int)) then
      Option.bind (g_inoAnswer (a1.2.2.2.2.2.2.1, a1.2.2.2.2.2.2.2.1, a1.2.2.2.2.2.2.2.2.1, a1.2.2.2.2.2.2.2.2.2.1)) fun r0 =>
      bif r0.1 then
       Option.bind (g_inoOrder a1.2.2.2.2.2.2.2.2.2.2) fun r1 =>
       some r1.1
      else some false
     else some false
    else some false : Option (Bool)) fun x2 =>
   bif x2 then
    Option.bind (g_iaskText (a1.2.1, a1.2.2.1, a1.2.2.2.1, a1.2.2.2.2.1)) fun r3 =>
    some (r3.1.1, r3.1.2)
   else Option.bind (bif decide (a1.1 = (2 : Int)) then
     bif (decide (a1.2.1 = (0 : Int)) && (decide (a1.2.2.1 = (0 : Int)) && (decide (a1.2.2.2.1 = (0 : Int)) && (decide (a1.2.2.2.2.1 = (0 : Int)) && true)))) then
      Option.bind (g_inoOrder a1.2.2.2.2.2.2.2.2.2.2) fun r4 =>
      bif r4.1 then
       Option.bind (g_iin (a1.2.2.2.2.2.1, (0 : Int), (100000 : Int))) fun r5 =>
       some r5.1
      else some false
     else some false
    else some false : Option (Bool)) fun x6 =>
   bif x6 then
    Option.bind (g_iVarText a1.2.2.2.2.2.1) fun r7 =>
    Option.bind (g_iAnswerText (a0, (a1.2.2.2.2.2.2.1, a1.2.2.2.2.2.2.2.1, a1.2.2.2.2.2.2.2.2.1, a1.2.2.2.2.2.2.2.2.2.1))) fun r8 =>
    Option.bind (g_iShortText r8.1.1) fun r9 =>
    bif decide (r7.1.1.size + r9.1.1.size ≤ 4611686018427387904) then
     some (r7.1.1 ++ r9.1.1, r8.1.2)
    else none
   else Option.bind (bif decide (a1.1 = (3 : Int)) then
     bif (decide (a1.2.1 = (0 : Int)) && (decide (a1.2.2.1 = (0 : Int)) && (decide (a1.2.2.2.1 = (0 : Int)) && (decide (a1.2.2.2.2.1 = (0 : Int)) && true)))) then
      bif decide (a1.2.2.2.2.2.1 = (0 : Int)) then
       Option.bind (g_inoAnswer (a1.2.2.2.2.2.2.1, a1.2.2.2.2.2.2.2.1, a1.2.2.2.2.2.2.2.2.1, a1.2.2.2.2.2.2.2.2.2.1)) fun r10 =>
       some r10.1
      else some false
     else some false
    else some false : Option (Bool)) fun x11 =>
   bif x11 then
    Option.bind (g_iOrderText (a0, a1.2.2.2.2.2.2.2.2.2.2)) fun r12 =>
    Option.bind (g_iShortText r12.1.1) fun r13 =>
    some (r13.1.1, r12.1.2)
   else some ((ByteArray.mk #[]), false) : Option (ByteArray × Bool)) fun x14 =>
  bif !x14.2 then
   some (((ByteArray.mk #[]), false), ())
  else bif decide ((bytesStr ([IntKind.wrap .u8 (a1.1)])).size + x14.1.size ≤ 4611686018427387904) then
   some (((bytesStr ([IntKind.wrap .u8 (a1.1)])) ++ x14.1, true), ())
  else none := by kernel_rfl
/- impl.SumMore -/
def c_iSumMore : TC :=
 (.seq (.rg [o1 4 (.lit [.i .u32] [.int .u32 (0)])])
 (.seq (.join [⟨0, [.i .u32], false⟩] 1073741793 none (.seq (.rg [o1 7 (.copy 1),
   o1 8 (.data .slen [.t 7]),
   o1 9 (.lit [.i .i64] [.int .i64 (0)])])
 (.block 0 (.loop [⟨0, [.i .u32], false⟩, ⟨9, [.i .i64], false⟩] 1073741409
  (.seq (.rg [o1 10 (.data (.bin .lss) [.t 9, .t 8])])
  (.seq (.cond (.t 10)
   .skip
   (.exit 0))
  (.seq (.join [⟨0, [.i .u32], false⟩] 536868961 none (.block 1 (.seq (.rg [o1 11 (.copy 9),
    o1 5 (.copy 11)])
  (.seq (.rg [o1 12 (.copy 0),
    o1 13 (.copy 1),
    o1 14 (.copy 5),
    o1 15 (.data .sidx [.t 13, .t 14]),
    o1 16 (.data (.conv .u32) [.t 15]),
    o1 17 (.data (.bin .xor) [.t 12, .t 16]),
    o1 0 (.copy 17)])
  (.seq (.rg [o1 18 (.lit [.i .i64] [.int .i64 (0)])])
  (.block 2 (.loop [⟨0, [.i .u32], false⟩, ⟨18, [.i .i64], false⟩] 536608833
   (.seq (.rg [o1 19 (.data (.bin .lss) [.t 18, .c (.int .i64 (8))])])
   (.seq (.cond (.t 19)
    .skip
    (.exit 2))
   (.seq (.join [⟨0, [.i .u32], false⟩] 267386945 none (.block 3 (.seq (.rg [o1 20 (.copy 0),
     o1 21 (.data (.bin .and) [.t 20, .c (.int .u32 (1))]),
     o1 22 (.data (.bin .eql) [.t 21, .c (.int .u32 (1))]),
     o1 6 (.copy 22)])
   (.seq (.rg [o1 23 (.copy 0),
     o1 24 (.data (.bin .shr) [.t 23, .c (.int .u64 (1))]),
     o1 0 (.copy 24)])
   (.seq (.rg [o1 25 (.copy 6)])
   (.cond (.t 25)
    (.rg [o1 26 (.copy 0),
      o1 27 (.data (.bin .xor) [.t 26, .c (.int .u32 (3558460437))]),
      o1 0 (.copy 27)])
    .skip))))))
   (.rg [o1 28 (.data (.bin .add) [.t 18, .c (.int .i64 (1))]),
     o1 18 (.copy 28)])))))))))))
  (.rg [o1 29 (.data (.bin .add) [.t 9, .c (.int .i64 (1))]),
    o1 9 (.copy 29)]))))))))
 (.seq (.rg [o1 30 (.copy 0),
   o1 4 (.copy 30)])
 .ret)))
def s_iSumMore : Sig := ⟨[.rd false [.d], .rd false [.d]], (.one false [.d])⟩
noncomputable def E_iSumMore : TEnv := envOf []
noncomputable def f_iSumMore (n : Nat) : Int × ByteArray → Option ((Int) × Unit) := runFn n E_iSumMore c_iSumMore [[.i .u32], [.s]] [.i .u32] [] [4] .no
noncomputable def g_iSumMore := f_iSumMore BIG
noncomputable def p_iSumMore : TSp := ⟨s_iSumMore, [[.i .u32], [.s]], [.i .u32], [], Ou.j .no, g_iSumMore⟩
theorem k_iSumMore : chkW PG E_iSumMore 357 s_iSumMore (c_iSumMore.ht 31) .no = some (c_iSumMore.wc E_iSumMore, [4]) := by kernel_rfl
theorem ok_iSumMore : p_iSumMore.Ok PG 357 := mkOk (env_nil PG) k_iSumMore (by kernel_rfl)
theorem e_iSumMore (n : Nat) (a0 : Int) (a1 : ByteArray) : f_iSumMore n (a0, a1) =
  Option.bind (loopT n (X := Int × Int) (B := Int) (fun self1 x0 =>
    bif decide (x0.2 < (a1.size : Int)) then
     Option.bind (bnd a1.size x0.2 fun n2 => Option.bind a1[n2]? fun b3 =>
      loopT n (X := Int × Int) (B := Int) (fun self5 x4 =>
       bif decide (x4.2 < (8 : Int)) then
        Option.bind (bif decide ((1 : Int) < 0) then
          none
         else bif decide ((bits .and .u32 x4.1 (1 : Int)) = (1 : Int)) then
          some (bits .xor .u32 (Int.fdiv x4.1 (2 ^ (Nat.min (Int.toNat (1 : Int)) (IntKind.bits .u32)))) (3558460437 : Int))
         else some (Int.fdiv x4.1 (2 ^ (Nat.min (Int.toNat (1 : Int)) (IntKind.bits .u32)))) : Option (Int)) fun x6 =>
        self5 (x6, IntKind.wrap .i64 (x4.2 + (1 : Int)))
       else some x4.1) (bits .xor .u32 x0.1 (IntKind.wrap .u32 ((b3.toNat : Int))), (0 : Int)) : Option (Int)) fun x7 =>
     self1 (x7, IntKind.wrap .i64 (x0.2 + (1 : Int)))
    else some x0.1) (a0, (0 : Int)) : Option (Int)) fun x8 =>
  some (x8, ()) := by kernel_rfl
/- impl.SumOf -/
def c_iSumOf : TC :=
 (.seq (.rg [o1 2 (.lit [.i .u32] [.int .u32 (0)])])
 (.seq (.rg [o1 3 (.copy 0),
   o3 4 357 [.c [.i .u32] [.int .u32 (4294967295)], .t 3],
   o1 2 (.copy 4)])
 .ret))
def s_iSumOf : Sig := ⟨[.rd false [.d]], (.one false [.d])⟩
noncomputable def E_iSumOf : TEnv := envOf [(357, p_iSumMore)]
noncomputable def f_iSumOf (n : Nat) : ByteArray → Option ((Int) × Unit) := runFn n E_iSumOf c_iSumOf [[.s]] [.i .u32] [] [2] .no
noncomputable def g_iSumOf := f_iSumOf BIG
noncomputable def p_iSumOf : TSp := ⟨s_iSumOf, [[.s]], [.i .u32], [], Ou.j .no, g_iSumOf⟩
theorem k_iSumOf : chkW PG E_iSumOf 344 s_iSumOf (c_iSumOf.ht 5) .no = some (c_iSumOf.wc E_iSumOf, [2]) := by kernel_rfl
theorem ok_iSumOf : p_iSumOf.Ok PG 344 := mkOk (env_cons ok_iSumMore (env_nil PG)) k_iSumOf (by kernel_rfl)
theorem e_iSumOf (n : Nat) (a0 : ByteArray) : f_iSumOf n a0 =
  Option.bind (g_iSumMore ((4294967295 : Int), a0)) fun r0 =>
  some (r0.1, ()) := by kernel_rfl
/- impl.Frame -/
def c_iFrame : TC :=
 (.seq (.rg [o1 2 (.lit [.s] [.string ⟨#[]⟩]),
   o1 3 (.lit [.b] [.bool false])])
 (.seq (.seq (.rg [o1 7 (.copy 0),
   o1 8 (.data .slen [.t 7]),
   o3 9 161 [.t 8, .c [.i .i64] [.int .i64 (1)], .c [.i .i64] [.int .i64 (9000)]],
   o1 10 (.data .not [.t 9])])
 (.cond (.t 10)
  (.seq (.rg [o1 2 (.lit [.s] [.string ⟨#[]⟩]),
    o1 3 (.lit [.b] [.bool false])])
  .ret)
  .skip))
 (.seq (.rg [o1 12 (.copy 0),
   o1 13 (.data .slen [.t 12]),
   o3 14 237 [.t 13],
   ⟨false, [], [], .det 2 (.copy 14), [11, 14], (some 11), none⟩,
   o1 15 (.ext 11 0 1),
   o1 16 (.ext 11 1 1),
   o1 4 (.copy 15),
   o1 5 (.copy 16)])
 (.seq (.rg [o1 17 (.copy 0),
   o3 18 344 [.t 17],
   o1 6 (.copy 18)])
 (.seq (.rg [o1 19 (.copy 4),
   o1 20 (.copy 6),
   o1 21 (.data (.bin .shr) [.t 20, .c (.int .u64 (24))]),
   o1 22 (.data (.conv .u8) [.t 21]),
   o1 23 (.copy 6),
   o1 24 (.data (.bin .shr) [.t 23, .c (.int .u64 (16))]),
   o1 25 (.data (.conv .u8) [.t 24]),
   o1 26 (.copy 6),
   o1 27 (.data (.bin .shr) [.t 26, .c (.int .u64 (8))]),
   o1 28 (.data (.conv .u8) [.t 27]),
   o1 29 (.copy 6),
   o1 30 (.data (.conv .u8) [.t 29]),
   o1 31 (.sli [.i .u8] [.t 22, .t 25, .t 28, .t 30]),
   o1 32 (.bytes 31),
   o1 33 (.data (.bin .add) [.t 19, .t 32]),
   o1 34 (.copy 0),
   o1 35 (.data (.bin .add) [.t 33, .t 34]),
   o1 2 (.copy 35),
   o1 3 (.lit [.b] [.bool true])])
 .ret)))))
def s_iFrame : Sig := ⟨[.rd false [.d]], (.tup [(false, 1), (false, 1)] [.d, .d])⟩
noncomputable def E_iFrame : TEnv := envOf [(161, p_iin), (237, p_iVarText), (344, p_iSumOf)]
noncomputable def f_iFrame (n : Nat) : ByteArray → Option ((ByteArray × Bool) × Unit) := runFn n E_iFrame c_iFrame [[.s]] [.s, .b] [] [2, 3] .no
noncomputable def g_iFrame := f_iFrame BIG
noncomputable def p_iFrame : TSp := ⟨s_iFrame, [[.s]], [.s, .b], [], Ou.j .no, g_iFrame⟩
theorem k_iFrame : chkW PG E_iFrame 284 s_iFrame (c_iFrame.ht 36) .no = some (c_iFrame.wc E_iFrame, [2, 3]) := by kernel_rfl
theorem ok_iFrame : p_iFrame.Ok PG 284 := mkOk (env_cons ok_iin (env_cons ok_iVarText (env_cons ok_iSumOf (env_nil PG)))) k_iFrame (by kernel_rfl)
theorem e_iFrame (n : Nat) (a0 : ByteArray) : f_iFrame n a0 =
  Option.bind (g_iin ((a0.size : Int), (1 : Int), (9000 : Int))) fun r0 =>
  bif !r0.1 then
   some (((ByteArray.mk #[]), false), ())
  else Option.bind (g_iVarText (a0.size : Int)) fun r1 =>
  Option.bind (g_iSumOf a0) fun r2 =>
  bif decide ((24 : Int) < 0) then
   none
  else bif decide ((16 : Int) < 0) then
   none
  else bif decide ((8 : Int) < 0) then
   none
  else bif decide (r1.1.1.size + (bytesStr ([IntKind.wrap .u8 (Int.fdiv r2.1 (2 ^ (Nat.min (Int.toNat (24 : Int)) (IntKind.bits .u32)))), IntKind.wrap .u8 (Int.fdiv r2.1 (2 ^ (Nat.min (Int.toNat (16 : Int)) (IntKind.bits .u32)))), IntKind.wrap .u8 (Int.fdiv r2.1 (2 ^ (Nat.min (Int.toNat (8 : Int)) (IntKind.bits .u32)))), IntKind.wrap .u8 (r2.1)])).size ≤ 4611686018427387904) then
   bif decide ((r1.1.1 ++ (bytesStr ([IntKind.wrap .u8 (Int.fdiv r2.1 (2 ^ (Nat.min (Int.toNat (24 : Int)) (IntKind.bits .u32)))), IntKind.wrap .u8 (Int.fdiv r2.1 (2 ^ (Nat.min (Int.toNat (16 : Int)) (IntKind.bits .u32)))), IntKind.wrap .u8 (Int.fdiv r2.1 (2 ^ (Nat.min (Int.toNat (8 : Int)) (IntKind.bits .u32)))), IntKind.wrap .u8 (r2.1)]))).size + a0.size ≤ 4611686018427387904) then
    some (((r1.1.1 ++ (bytesStr ([IntKind.wrap .u8 (Int.fdiv r2.1 (2 ^ (Nat.min (Int.toNat (24 : Int)) (IntKind.bits .u32)))), IntKind.wrap .u8 (Int.fdiv r2.1 (2 ^ (Nat.min (Int.toNat (16 : Int)) (IntKind.bits .u32)))), IntKind.wrap .u8 (Int.fdiv r2.1 (2 ^ (Nat.min (Int.toNat (8 : Int)) (IntKind.bits .u32)))), IntKind.wrap .u8 (r2.1)]))) ++ a0, true), ())
   else none
  else none := by kernel_rfl
/- impl.LogActs -/
def c_iLogActs : TC :=
 (.seq (.rg [o1 3 (.a (.t 0)),
   o1 5 (.a (.t 2)),
   o1 6 (.lit [.sl [.i .i64, .s, .s, .s]] [.slice none 0 0]),
   o1 7 (.lit [.b] [.bool false])])
 (.seq (.rg [o1 13 (.copy 1),
   o1 14 (.load 5 [] 0 .nil 14 false),
   o3 15 101 [.t 13, .t 14],
   ⟨false, [], [], .det 2 (.copy 15), [12, 15], (some 12), none⟩,
   o1 16 (.ext 12 0 1),
   o1 17 (.ext 12 1 1),
   o1 8 (.copy 16),
   o1 9 (.copy 17)])
 (.seq (.rg [o1 19 (.copy 8),
   o3 20 284 [.t 19],
   ⟨false, [], [], .det 2 (.copy 20), [18, 20], (some 18), none⟩,
   o1 21 (.ext 18 0 1),
   o1 22 (.ext 18 1 1),
   o1 10 (.copy 21),
   o1 11 (.copy 22)])
 (.seq (.seq (.join [⟨28, [.b], false⟩] 528482304 none (.rg [o1 23 (.copy 9),
   o1 24 (.data .not [.t 23]),
   o1 25 (.copy 24),
   o2 26 (.copy 11) 2 false,
   o2 27 (.data .not [.t 26]) 2 false,
   ⟨false, [], [], .pick 25 (.c (.bool true)) (.t 27), [28], (some 28), none⟩]))
 (.cond (.t 28)
  (.seq (.rg [o1 6 (.lit [.sl [.i .i64, .s, .s, .s]] [.slice none 0 0]),
    o1 7 (.lit [.b] [.bool false])])
  .ret)
  .skip))
 (.seq (.rg [o1 29 (.copy 10),
   ⟨false, [], [], .det 3 (.build [.i .i64, .s, .s, .s] [(0, .c [.i .i64] [.int .i64 (1)]), (1, .c [.s] [.string ⟨#[108, 111, 103]⟩]), (2, .t 29)]), [30, 1000000001, 1000000002], (some 30), none⟩,
   ⟨false, [], [], .det 3 (.build [.i .i64, .s, .s, .s] [(0, .c [.i .i64] [.int .i64 (2)]), (1, .c [.s] [.string ⟨#[108, 111, 103]⟩])]), [31, 1000000001, 1000000002], (some 31), none⟩,
   o1 32 (.sli [.i .i64, .s, .s, .s] [.t 30, .t 31]),
   ⟨false, [], [], .det 2 (.copy 32), [6, 32], (some 6), none⟩,
   o1 7 (.lit [.b] [.bool true])])
 .ret)))))
def s_iLogActs : Sig := ⟨[.rd true [.sl (.own none) [.d, .d, .d]], .rd false [.d], .rd true [.d, .d, .d, .d, .d, .d, .d, .d, .sl (.own none) [.d, .d], .sl (.own none) [.d], .d, .d, .sl (.own none) [.d, .d], .d]], (.tup [(false, 1), (false, 1)] [.sl (.own none) [.d, .d, .d, .d], .d])⟩
noncomputable def E_iLogActs : TEnv := envOf [(101, p_iRecText), (284, p_iFrame)]
noncomputable def f_iLogActs (n : Nat) : (List (ByteArray × ByteArray × Int)) × Int × (Int × Int × Int × Int × Int × Int × Int × Bool × List (Int × Int) × List (Int) × Int × Int × List (Int × Int) × Int) → Option ((List (Int × ByteArray × ByteArray × ByteArray) × Bool) × Unit) := runFn n E_iLogActs c_iLogActs [[.sl [.s, .s, .i .i64]], [.i .i64], [.i .i64, .i .i64, .i .i64, .i .i64, .i .i64, .i .i64, .i .i64, .b, .sl [.i .i64, .i .i64], .sl [.i .i64], .i .i64, .i .i64, .sl [.i .i64, .i .i64], .i .i64]] [.sl [.i .i64, .s, .s, .s], .b] [] [6, 7] .no
noncomputable def g_iLogActs := f_iLogActs BIG
noncomputable def p_iLogActs : TSp := ⟨s_iLogActs, [[.sl [.s, .s, .i .i64]], [.i .i64], [.i .i64, .i .i64, .i .i64, .i .i64, .i .i64, .i .i64, .i .i64, .b, .sl [.i .i64, .i .i64], .sl [.i .i64], .i .i64, .i .i64, .sl [.i .i64, .i .i64], .i .i64]], [.sl [.i .i64, .s, .s, .s], .b], [], Ou.j .no, g_iLogActs⟩
theorem k_iLogActs : chkW PG E_iLogActs 145 s_iLogActs (c_iLogActs.ht 33) .no = some (c_iLogActs.wc E_iLogActs, [6, 7]) := by kernel_rfl
theorem ok_iLogActs : p_iLogActs.Ok PG 145 := mkOk (env_cons ok_iRecText (env_cons ok_iFrame (env_nil PG))) k_iLogActs (by kernel_rfl)
theorem e_iLogActs (n : Nat) (a0 : List (ByteArray × ByteArray × Int)) (a1 : Int) (a2 : Int × Int × Int × Int × Int × Int × Int × Bool × List (Int × Int) × List (Int) × Int × Int × List (Int × Int) × Int) : f_iLogActs n (a0, a1, a2) =
  Option.bind (g_iRecText (a1, a2)) fun r0 =>
  Option.bind (g_iFrame r0.1.1) fun r1 =>
  Option.bind (bif !r0.1.2 then
    some true
   else some !r1.1.2 : Option (Bool)) fun x2 =>
  bif x2 then
   some (([], false), ())
  else some (([((1 : Int), (ByteArray.mk #[108, 111, 103]), r1.1.1, ByteArray.empty), ((2 : Int), (ByteArray.mk #[108, 111, 103]), ByteArray.empty, ByteArray.empty)], true), ()) := by kernel_rfl
/- laws.eqAct -/
def c_leqAct : TC :=
 (.seq (.rg [o1 2 (.a (.t 0)),
   o1 3 (.a (.t 1)),
   o1 4 (.lit [.b] [.bool false])])
 (.seq (.seq (.rg [o1 5 (.idx .nil),
   o1 6 (.load 2 [] 0 (.t 5) 1 false),
   o1 7 (.idx .nil),
   o1 8 (.load 3 [] 0 (.t 7) 1 false),
   o1 9 (.data (.bin .neq) [.t 6, .t 8])])
 (.cond (.t 9)
  (.seq (.rg [o1 4 (.lit [.b] [.bool false])])
  .ret)
  .skip))
 (.seq (.seq (.rg [o1 10 (.idx .nil),
   o1 11 (.load 2 [] 1 (.t 10) 1 false),
   o1 12 (.idx .nil),
   o1 13 (.load 3 [] 1 (.t 12) 1 false),
   o1 14 (.data (.bin .neq) [.t 11, .t 13])])
 (.cond (.t 14)
  (.seq (.rg [o1 4 (.lit [.b] [.bool false])])
  .ret)
  .skip))
 (.seq (.seq (.rg [o1 15 (.idx .nil),
   o1 16 (.load 2 [] 2 (.t 15) 1 false),
   o1 17 (.idx .nil),
   o1 18 (.load 3 [] 2 (.t 17) 1 false),
   o1 19 (.data (.bin .neq) [.t 16, .t 18])])
 (.cond (.t 19)
  (.seq (.rg [o1 4 (.lit [.b] [.bool false])])
  .ret)
  .skip))
 (.seq (.seq (.rg [o1 20 (.idx .nil),
   o1 21 (.load 2 [] 3 (.t 20) 1 false),
   o1 22 (.idx .nil),
   o1 23 (.load 3 [] 3 (.t 22) 1 false),
   o1 24 (.data (.bin .neq) [.t 21, .t 23])])
 (.cond (.t 24)
  (.seq (.rg [o1 4 (.lit [.b] [.bool false])])
  .ret)
  .skip))
 (.seq (.rg [o1 4 (.lit [.b] [.bool true])])
 .ret))))))
def s_leqAct : Sig := ⟨[.rd true [.d, .d, .d, .d], .rd true [.d, .d, .d, .d]], (.one false [.d])⟩
noncomputable def E_leqAct : TEnv := envOf []
noncomputable def f_leqAct (n : Nat) : (Int × ByteArray × ByteArray × ByteArray) × (Int × ByteArray × ByteArray × ByteArray) → Option ((Bool) × Unit) := runFn n E_leqAct c_leqAct [[.i .i64, .s, .s, .s], [.i .i64, .s, .s, .s]] [.b] [] [4] .no
noncomputable def g_leqAct := f_leqAct BIG
noncomputable def p_leqAct : TSp := ⟨s_leqAct, [[.i .i64, .s, .s, .s], [.i .i64, .s, .s, .s]], [.b], [], Ou.j .no, g_leqAct⟩
theorem k_leqAct : chkW PG E_leqAct 285 s_leqAct (c_leqAct.ht 25) .no = some (c_leqAct.wc E_leqAct, [4]) := by kernel_rfl
theorem ok_leqAct : p_leqAct.Ok PG 285 := mkOk (env_nil PG) k_leqAct (by kernel_rfl)
theorem e_leqAct (n : Nat) (a0 : Int × ByteArray × ByteArray × ByteArray) (a1 : Int × ByteArray × ByteArray × ByteArray) : f_leqAct n (a0, a1) =
  bif !decide (a0.1 = a1.1) then
   some (false, ())
  else bif !(a0.2.1.toList == a1.2.1.toList) then
   some (false, ())
  else bif !(a0.2.2.1.toList == a1.2.2.1.toList) then
   some (false, ())
  else bif !(a0.2.2.2.toList == a1.2.2.2.toList) then
   some (false, ())
  else some (true, ()) := by kernel_rfl
/- laws.eqActS -/
def c_leqActS : TC :=
 (.seq (.rg [o1 4 (.lit [.b] [.bool false])])
 (.seq (.seq (.rg [o1 6 (.copy 0),
   o1 7 (.len 6),
   o1 8 (.copy 1),
   o1 9 (.len 8),
   o1 10 (.data (.bin .neq) [.t 7, .t 9])])
 (.cond (.t 10)
  (.seq (.rg [o1 4 (.lit [.b] [.bool false])])
  .ret)
  .skip))
 (.seq (.join [] 134215728 (some [⟨4, [.b], false⟩]) (.seq (.rg [o1 5 (.lit [.i .i64] [.int .i64 (0)])])
 (.block 0 (.loop [⟨5, [.i .i64], false⟩] 134215728
  (.seq (.seq (.rg [o1 11 (.copy 5),
    o1 12 (.copy 0),
    o1 13 (.len 12),
    o1 14 (.data (.bin .lss) [.t 11, .t 13])])
  (.cond (.t 14)
   .skip
   (.exit 0)))
  (.seq (.block 1 (.seq (.rg [o1 17 (.copy 0),
    o1 18 (.copy 5),
    o1 19 (.index 17 (.t 18)),
    o1 20 (.load 17 [(0, 4)] 0 (.t 19) 4 false),
    o1 21 (.copy 1),
    o1 22 (.copy 5),
    o1 23 (.index 21 (.t 22)),
    o1 24 (.load 21 [(0, 4)] 0 (.t 23) 4 false),
    o3 25 285 [.t 20, .t 24],
    o1 26 (.data .not [.t 25])])
  (.cond (.t 26)
   (.seq (.rg [o1 4 (.lit [.b] [.bool false])])
   .ret)
   .skip)))
  (.rg [o1 15 (.copy 5),
    o1 16 (.data (.bin .add) [.t 15, .c (.int .i64 (1))]),
    o1 5 (.copy 16)])))))))
 (.seq (.rg [o1 4 (.lit [.b] [.bool true])])
 .ret))))
def s_leqActS : Sig := ⟨[.rd false [.sl (.own none) [.d, .d, .d, .d]], .rd false [.sl (.own none) [.d, .d, .d, .d]]], (.one false [.d])⟩
noncomputable def E_leqActS : TEnv := envOf [(285, p_leqAct)]
noncomputable def f_leqActS (n : Nat) : (List (Int × ByteArray × ByteArray × ByteArray)) × (List (Int × ByteArray × ByteArray × ByteArray)) → Option ((Bool) × Unit) := runFn n E_leqActS c_leqActS [[.sl [.i .i64, .s, .s, .s]], [.sl [.i .i64, .s, .s, .s]]] [.b] [] [4] .no
noncomputable def g_leqActS := f_leqActS BIG
noncomputable def p_leqActS : TSp := ⟨s_leqActS, [[.sl [.i .i64, .s, .s, .s]], [.sl [.i .i64, .s, .s, .s]]], [.b], [], Ou.j .no, g_leqActS⟩
theorem k_leqActS : chkW PG E_leqActS 146 s_leqActS (c_leqActS.ht 27) .no = some (c_leqActS.wc E_leqActS, [4]) := by kernel_rfl
theorem ok_leqActS : p_leqActS.Ok PG 146 := mkOk (env_cons ok_leqAct (env_nil PG)) k_leqActS (by kernel_rfl)
theorem e_leqActS (n : Nat) (a0 : List (Int × ByteArray × ByteArray × ByteArray)) (a1 : List (Int × ByteArray × ByteArray × ByteArray)) : f_leqActS n (a0, a1) =
  bif !decide ((a0.length : Int) = (a1.length : Int)) then
   some (false, ())
  else Option.bind (loopT n (X := Int) (B := (Unit) ⊕ (Bool)) (fun self1 x0 =>
    bif decide (x0 < (a0.length : Int)) then
     bnd a0.length x0 fun n2 =>
     Option.bind a0[n2]? fun y3 =>
     bnd a1.length x0 fun n4 =>
     Option.bind a1[n4]? fun y5 =>
     Option.bind (g_leqAct (y3, y5)) fun r6 =>
     bif !r6.1 then
      some (Sum.inr false)
     else self1 (IntKind.wrap .i64 (x0 + (1 : Int)))
    else some (Sum.inl ())) (0 : Int) : Option ((Unit) ⊕ (Bool))) fun y => match y with
  | .inl x7 =>
   some (true, ())
  | .inr x7 =>
   some (x7, ()) := by kernel_rfl
/- laws.eqFile -/
def c_leqFile : TC :=
 (.seq (.rg [o1 2 (.a (.t 0)),
   o1 3 (.a (.t 1)),
   o1 4 (.lit [.b] [.bool false])])
 (.seq (.seq (.rg [o1 5 (.idx .nil),
   o1 6 (.load 2 [] 0 (.t 5) 1 false),
   o1 7 (.idx .nil),
   o1 8 (.load 3 [] 0 (.t 7) 1 false),
   o1 9 (.data (.bin .neq) [.t 6, .t 8])])
 (.cond (.t 9)
  (.seq (.rg [o1 4 (.lit [.b] [.bool false])])
  .ret)
  .skip))
 (.seq (.seq (.rg [o1 10 (.idx .nil),
   o1 11 (.load 2 [] 1 (.t 10) 1 false),
   o1 12 (.idx .nil),
   o1 13 (.load 3 [] 1 (.t 12) 1 false),
   o1 14 (.data (.bin .neq) [.t 11, .t 13])])
 (.cond (.t 14)
  (.seq (.rg [o1 4 (.lit [.b] [.bool false])])
  .ret)
  .skip))
 (.seq (.seq (.rg [o1 15 (.idx .nil),
   o1 16 (.load 2 [] 2 (.t 15) 1 false),
   o1 17 (.idx .nil),
   o1 18 (.load 3 [] 2 (.t 17) 1 false),
   o1 19 (.data (.bin .neq) [.t 16, .t 18])])
 (.cond (.t 19)
  (.seq (.rg [o1 4 (.lit [.b] [.bool false])])
  .ret)
  .skip))
 (.seq (.rg [o1 4 (.lit [.b] [.bool true])])
 .ret)))))
def s_leqFile : Sig := ⟨[.rd true [.d, .d, .d], .rd true [.d, .d, .d]], (.one false [.d])⟩
noncomputable def E_leqFile : TEnv := envOf []
noncomputable def f_leqFile (n : Nat) : (ByteArray × ByteArray × Int) × (ByteArray × ByteArray × Int) → Option ((Bool) × Unit) := runFn n E_leqFile c_leqFile [[.s, .s, .i .i64], [.s, .s, .i .i64]] [.b] [] [4] .no
noncomputable def g_leqFile := f_leqFile BIG
noncomputable def p_leqFile : TSp := ⟨s_leqFile, [[.s, .s, .i .i64], [.s, .s, .i .i64]], [.b], [], Ou.j .no, g_leqFile⟩
theorem k_leqFile : chkW PG E_leqFile 345 s_leqFile (c_leqFile.ht 20) .no = some (c_leqFile.wc E_leqFile, [4]) := by kernel_rfl
theorem ok_leqFile : p_leqFile.Ok PG 345 := mkOk (env_nil PG) k_leqFile (by kernel_rfl)
theorem e_leqFile (n : Nat) (a0 : ByteArray × ByteArray × Int) (a1 : ByteArray × ByteArray × Int) : f_leqFile n (a0, a1) =
  bif !(a0.1.toList == a1.1.toList) then
   some (false, ())
  else bif !(a0.2.1.toList == a1.2.1.toList) then
   some (false, ())
  else bif !decide (a0.2.2 = a1.2.2) then
   some (false, ())
  else some (true, ()) := by kernel_rfl
/- laws.eqFileS -/
def c_leqFileS : TC :=
 (.seq (.rg [o1 4 (.lit [.b] [.bool false])])
 (.seq (.seq (.rg [o1 6 (.copy 0),
   o1 7 (.len 6),
   o1 8 (.copy 1),
   o1 9 (.len 8),
   o1 10 (.data (.bin .neq) [.t 7, .t 9])])
 (.cond (.t 10)
  (.seq (.rg [o1 4 (.lit [.b] [.bool false])])
  .ret)
  .skip))
 (.seq (.join [] 134215728 (some [⟨4, [.b], false⟩]) (.seq (.rg [o1 5 (.lit [.i .i64] [.int .i64 (0)])])
 (.block 0 (.loop [⟨5, [.i .i64], false⟩] 134215728
  (.seq (.seq (.rg [o1 11 (.copy 5),
    o1 12 (.copy 0),
    o1 13 (.len 12),
    o1 14 (.data (.bin .lss) [.t 11, .t 13])])
  (.cond (.t 14)
   .skip
   (.exit 0)))
  (.seq (.block 1 (.seq (.rg [o1 17 (.copy 0),
    o1 18 (.copy 5),
    o1 19 (.index 17 (.t 18)),
    o1 20 (.load 17 [(0, 3)] 0 (.t 19) 3 false),
    o1 21 (.copy 1),
    o1 22 (.copy 5),
    o1 23 (.index 21 (.t 22)),
    o1 24 (.load 21 [(0, 3)] 0 (.t 23) 3 false),
    o3 25 345 [.t 20, .t 24],
    o1 26 (.data .not [.t 25])])
  (.cond (.t 26)
   (.seq (.rg [o1 4 (.lit [.b] [.bool false])])
   .ret)
   .skip)))
  (.rg [o1 15 (.copy 5),
    o1 16 (.data (.bin .add) [.t 15, .c (.int .i64 (1))]),
    o1 5 (.copy 16)])))))))
 (.seq (.rg [o1 4 (.lit [.b] [.bool true])])
 .ret))))
def s_leqFileS : Sig := ⟨[.rd false [.sl (.own none) [.d, .d, .d]], .rd false [.sl (.own none) [.d, .d, .d]]], (.one false [.d])⟩
noncomputable def E_leqFileS : TEnv := envOf [(345, p_leqFile)]
noncomputable def f_leqFileS (n : Nat) : (List (ByteArray × ByteArray × Int)) × (List (ByteArray × ByteArray × Int)) → Option ((Bool) × Unit) := runFn n E_leqFileS c_leqFileS [[.sl [.s, .s, .i .i64]], [.sl [.s, .s, .i .i64]]] [.b] [] [4] .no
noncomputable def g_leqFileS := f_leqFileS BIG
noncomputable def p_leqFileS : TSp := ⟨s_leqFileS, [[.sl [.s, .s, .i .i64]], [.sl [.s, .s, .i .i64]]], [.b], [], Ou.j .no, g_leqFileS⟩
theorem k_leqFileS : chkW PG E_leqFileS 286 s_leqFileS (c_leqFileS.ht 27) .no = some (c_leqFileS.wc E_leqFileS, [4]) := by kernel_rfl
theorem ok_leqFileS : p_leqFileS.Ok PG 286 := mkOk (env_cons ok_leqFile (env_nil PG)) k_leqFileS (by kernel_rfl)
theorem e_leqFileS (n : Nat) (a0 : List (ByteArray × ByteArray × Int)) (a1 : List (ByteArray × ByteArray × Int)) : f_leqFileS n (a0, a1) =
  bif !decide ((a0.length : Int) = (a1.length : Int)) then
   some (false, ())
  else Option.bind (loopT n (X := Int) (B := (Unit) ⊕ (Bool)) (fun self1 x0 =>
    bif decide (x0 < (a0.length : Int)) then
     bnd a0.length x0 fun n2 =>
     Option.bind a0[n2]? fun y3 =>
     bnd a1.length x0 fun n4 =>
     Option.bind a1[n4]? fun y5 =>
     Option.bind (g_leqFile (y3, y5)) fun r6 =>
     bif !r6.1 then
      some (Sum.inr false)
     else self1 (IntKind.wrap .i64 (x0 + (1 : Int)))
    else some (Sum.inl ())) (0 : Int) : Option ((Unit) ⊕ (Bool))) fun y => match y with
  | .inl x7 =>
   some (true, ())
  | .inr x7 =>
   some (x7, ()) := by kernel_rfl
/- laws.eqDisk -/
def c_leqDisk : TC :=
 (.seq (.rg [o1 2 (.a (.t 0)),
   o1 3 (.a (.t 1)),
   o1 4 (.lit [.b] [.bool false])])
 (.seq (.seq (.rg [o1 5 (.idx .nil),
   o1 6 (.load 2 [] 0 (.t 5) 1 false),
   o1 7 (.idx .nil),
   o1 8 (.load 3 [] 0 (.t 7) 1 false),
   o3 9 286 [.t 6, .t 8],
   o1 10 (.data .not [.t 9])])
 (.cond (.t 10)
  (.seq (.rg [o1 4 (.lit [.b] [.bool false])])
  .ret)
  .skip))
 (.seq (.rg [o1 4 (.lit [.b] [.bool true])])
 .ret)))
def s_leqDisk : Sig := ⟨[.rd true [.sl (.own none) [.d, .d, .d]], .rd true [.sl (.own none) [.d, .d, .d]]], (.one false [.d])⟩
noncomputable def E_leqDisk : TEnv := envOf [(286, p_leqFileS)]
noncomputable def f_leqDisk (n : Nat) : (List (ByteArray × ByteArray × Int)) × (List (ByteArray × ByteArray × Int)) → Option ((Bool) × Unit) := runFn n E_leqDisk c_leqDisk [[.sl [.s, .s, .i .i64]], [.sl [.s, .s, .i .i64]]] [.b] [] [4] .no
noncomputable def g_leqDisk := f_leqDisk BIG
noncomputable def p_leqDisk : TSp := ⟨s_leqDisk, [[.sl [.s, .s, .i .i64]], [.sl [.s, .s, .i .i64]]], [.b], [], Ou.j .no, g_leqDisk⟩
theorem k_leqDisk : chkW PG E_leqDisk 147 s_leqDisk (c_leqDisk.ht 11) .no = some (c_leqDisk.wc E_leqDisk, [4]) := by kernel_rfl
theorem ok_leqDisk : p_leqDisk.Ok PG 147 := mkOk (env_cons ok_leqFileS (env_nil PG)) k_leqDisk (by kernel_rfl)
theorem e_leqDisk (n : Nat) (a0 : List (ByteArray × ByteArray × Int)) (a1 : List (ByteArray × ByteArray × Int)) : f_leqDisk n (a0, a1) =
  Option.bind (g_leqFileS (a0, a1)) fun r0 =>
  bif !r0.1 then
   some (false, ())
  else some (true, ()) := by kernel_rfl
/- laws.eqAsk -/
def c_leqAsk : TC :=
 (.seq (.rg [o1 2 (.a (.t 0)),
   o1 3 (.a (.t 1)),
   o1 4 (.lit [.b] [.bool false])])
 (.seq (.seq (.rg [o1 5 (.idx .nil),
   o1 6 (.load 2 [] 0 (.t 5) 1 false),
   o1 7 (.idx .nil),
   o1 8 (.load 3 [] 0 (.t 7) 1 false),
   o1 9 (.data (.bin .neq) [.t 6, .t 8])])
 (.cond (.t 9)
  (.seq (.rg [o1 4 (.lit [.b] [.bool false])])
  .ret)
  .skip))
 (.seq (.seq (.rg [o1 10 (.idx .nil),
   o1 11 (.load 2 [] 1 (.t 10) 1 false),
   o1 12 (.idx .nil),
   o1 13 (.load 3 [] 1 (.t 12) 1 false),
   o1 14 (.data (.bin .neq) [.t 11, .t 13])])
 (.cond (.t 14)
  (.seq (.rg [o1 4 (.lit [.b] [.bool false])])
  .ret)
  .skip))
 (.seq (.seq (.rg [o1 15 (.idx .nil),
   o1 16 (.load 2 [] 2 (.t 15) 1 false),
   o1 17 (.idx .nil),
   o1 18 (.load 3 [] 2 (.t 17) 1 false),
   o1 19 (.data (.bin .neq) [.t 16, .t 18])])
 (.cond (.t 19)
  (.seq (.rg [o1 4 (.lit [.b] [.bool false])])
  .ret)
  .skip))
 (.seq (.seq (.rg [o1 20 (.idx .nil),
   o1 21 (.load 2 [] 3 (.t 20) 1 false),
   o1 22 (.idx .nil),
   o1 23 (.load 3 [] 3 (.t 22) 1 false),
   o1 24 (.data (.bin .neq) [.t 21, .t 23])])
 (.cond (.t 24)
  (.seq (.rg [o1 4 (.lit [.b] [.bool false])])
  .ret)
  .skip))
 (.seq (.rg [o1 4 (.lit [.b] [.bool true])])
 .ret))))))
def s_leqAsk : Sig := ⟨[.rd true [.d, .d, .d, .d], .rd true [.d, .d, .d, .d]], (.one false [.d])⟩
noncomputable def E_leqAsk : TEnv := envOf []
noncomputable def f_leqAsk (n : Nat) : (Int × Int × Int × Int) × (Int × Int × Int × Int) → Option ((Bool) × Unit) := runFn n E_leqAsk c_leqAsk [[.i .i64, .i .i64, .i .i64, .i .i64], [.i .i64, .i .i64, .i .i64, .i .i64]] [.b] [] [4] .no
noncomputable def g_leqAsk := f_leqAsk BIG
noncomputable def p_leqAsk : TSp := ⟨s_leqAsk, [[.i .i64, .i .i64, .i .i64, .i .i64], [.i .i64, .i .i64, .i .i64, .i .i64]], [.b], [], Ou.j .no, g_leqAsk⟩
theorem k_leqAsk : chkW PG E_leqAsk 239 s_leqAsk (c_leqAsk.ht 25) .no = some (c_leqAsk.wc E_leqAsk, [4]) := by kernel_rfl
theorem ok_leqAsk : p_leqAsk.Ok PG 239 := mkOk (env_nil PG) k_leqAsk (by kernel_rfl)
theorem e_leqAsk (n : Nat) (a0 : Int × Int × Int × Int) (a1 : Int × Int × Int × Int) : f_leqAsk n (a0, a1) =
  bif !decide (a0.1 = a1.1) then
   some (false, ())
  else bif !decide (a0.2.1 = a1.2.1) then
   some (false, ())
  else bif !decide (a0.2.2.1 = a1.2.2.1) then
   some (false, ())
  else bif !decide (a0.2.2.2 = a1.2.2.2) then
   some (false, ())
  else some (true, ()) := by kernel_rfl
/- laws.eqEdge -/
def c_leqEdge : TC :=
 (.seq (.rg [o1 2 (.a (.t 0)),
   o1 3 (.a (.t 1)),
   o1 4 (.lit [.b] [.bool false])])
 (.seq (.seq (.rg [o1 5 (.idx .nil),
   o1 6 (.load 2 [] 0 (.t 5) 1 false),
   o1 7 (.idx .nil),
   o1 8 (.load 3 [] 0 (.t 7) 1 false),
   o1 9 (.data (.bin .neq) [.t 6, .t 8])])
 (.cond (.t 9)
  (.seq (.rg [o1 4 (.lit [.b] [.bool false])])
  .ret)
  .skip))
 (.seq (.seq (.rg [o1 10 (.idx .nil),
   o1 11 (.load 2 [] 1 (.t 10) 1 false),
   o1 12 (.idx .nil),
   o1 13 (.load 3 [] 1 (.t 12) 1 false),
   o1 14 (.data (.bin .neq) [.t 11, .t 13])])
 (.cond (.t 14)
  (.seq (.rg [o1 4 (.lit [.b] [.bool false])])
  .ret)
  .skip))
 (.seq (.rg [o1 4 (.lit [.b] [.bool true])])
 .ret))))
def s_leqEdge : Sig := ⟨[.rd true [.d, .d], .rd true [.d, .d]], (.one false [.d])⟩
noncomputable def E_leqEdge : TEnv := envOf []
noncomputable def f_leqEdge (n : Nat) : (Int × Int) × (Int × Int) → Option ((Bool) × Unit) := runFn n E_leqEdge c_leqEdge [[.i .i64, .i .i64], [.i .i64, .i .i64]] [.b] [] [4] .no
noncomputable def g_leqEdge := f_leqEdge BIG
noncomputable def p_leqEdge : TSp := ⟨s_leqEdge, [[.i .i64, .i .i64], [.i .i64, .i .i64]], [.b], [], Ou.j .no, g_leqEdge⟩
theorem k_leqEdge : chkW PG E_leqEdge 174 s_leqEdge (c_leqEdge.ht 15) .no = some (c_leqEdge.wc E_leqEdge, [4]) := by kernel_rfl
theorem ok_leqEdge : p_leqEdge.Ok PG 174 := mkOk (env_nil PG) k_leqEdge (by kernel_rfl)
theorem e_leqEdge (n : Nat) (a0 : Int × Int) (a1 : Int × Int) : f_leqEdge n (a0, a1) =
  bif !decide (a0.1 = a1.1) then
   some (false, ())
  else bif !decide (a0.2 = a1.2) then
   some (false, ())
  else some (true, ()) := by kernel_rfl
/- laws.eqEdgeS -/
def c_leqEdgeS : TC :=
 (.seq (.rg [o1 4 (.lit [.b] [.bool false])])
 (.seq (.seq (.rg [o1 6 (.copy 0),
   o1 7 (.len 6),
   o1 8 (.copy 1),
   o1 9 (.len 8),
   o1 10 (.data (.bin .neq) [.t 7, .t 9])])
 (.cond (.t 10)
  (.seq (.rg [o1 4 (.lit [.b] [.bool false])])
  .ret)
  .skip))
 (.seq (.join [] 134215728 (some [⟨4, [.b], false⟩]) (.seq (.rg [o1 5 (.lit [.i .i64] [.int .i64 (0)])])
 (.block 0 (.loop [⟨5, [.i .i64], false⟩] 134215728
  (.seq (.seq (.rg [o1 11 (.copy 5),
    o1 12 (.copy 0),
    o1 13 (.len 12),
    o1 14 (.data (.bin .lss) [.t 11, .t 13])])
  (.cond (.t 14)
   .skip
   (.exit 0)))
  (.seq (.block 1 (.seq (.rg [o1 17 (.copy 0),
    o1 18 (.copy 5),
    o1 19 (.index 17 (.t 18)),
    o1 20 (.load 17 [(0, 2)] 0 (.t 19) 2 false),
    o1 21 (.copy 1),
    o1 22 (.copy 5),
    o1 23 (.index 21 (.t 22)),
    o1 24 (.load 21 [(0, 2)] 0 (.t 23) 2 false),
    o3 25 174 [.t 20, .t 24],
    o1 26 (.data .not [.t 25])])
  (.cond (.t 26)
   (.seq (.rg [o1 4 (.lit [.b] [.bool false])])
   .ret)
   .skip)))
  (.rg [o1 15 (.copy 5),
    o1 16 (.data (.bin .add) [.t 15, .c (.int .i64 (1))]),
    o1 5 (.copy 16)])))))))
 (.seq (.rg [o1 4 (.lit [.b] [.bool true])])
 .ret))))
def s_leqEdgeS : Sig := ⟨[.rd false [.sl (.own none) [.d, .d]], .rd false [.sl (.own none) [.d, .d]]], (.one false [.d])⟩
noncomputable def E_leqEdgeS : TEnv := envOf [(174, p_leqEdge)]
noncomputable def f_leqEdgeS (n : Nat) : (List (Int × Int)) × (List (Int × Int)) → Option ((Bool) × Unit) := runFn n E_leqEdgeS c_leqEdgeS [[.sl [.i .i64, .i .i64]], [.sl [.i .i64, .i .i64]]] [.b] [] [4] .no
noncomputable def g_leqEdgeS := f_leqEdgeS BIG
noncomputable def p_leqEdgeS : TSp := ⟨s_leqEdgeS, [[.sl [.i .i64, .i .i64]], [.sl [.i .i64, .i .i64]]], [.b], [], Ou.j .no, g_leqEdgeS⟩
theorem k_leqEdgeS : chkW PG E_leqEdgeS 41 s_leqEdgeS (c_leqEdgeS.ht 27) .no = some (c_leqEdgeS.wc E_leqEdgeS, [4]) := by kernel_rfl
theorem ok_leqEdgeS : p_leqEdgeS.Ok PG 41 := mkOk (env_cons ok_leqEdge (env_nil PG)) k_leqEdgeS (by kernel_rfl)
theorem e_leqEdgeS (n : Nat) (a0 : List (Int × Int)) (a1 : List (Int × Int)) : f_leqEdgeS n (a0, a1) =
  bif !decide ((a0.length : Int) = (a1.length : Int)) then
   some (false, ())
  else Option.bind (loopT n (X := Int) (B := (Unit) ⊕ (Bool)) (fun self1 x0 =>
    bif decide (x0 < (a0.length : Int)) then
     bnd a0.length x0 fun n2 =>
     Option.bind a0[n2]? fun y3 =>
     bnd a1.length x0 fun n4 =>
     Option.bind a1[n4]? fun y5 =>
     Option.bind (g_leqEdge (y3, y5)) fun r6 =>
     bif !r6.1 then
      some (Sum.inr false)
     else self1 (IntKind.wrap .i64 (x0 + (1 : Int)))
    else some (Sum.inl ())) (0 : Int) : Option ((Unit) ⊕ (Bool))) fun y => match y with
  | .inl x7 =>
   some (true, ())
  | .inr x7 =>
   some (x7, ()) := by kernel_rfl
/- laws.eqIntS -/
def c_leqIntS : TC :=
 (.seq (.rg [o1 4 (.lit [.b] [.bool false])])
 (.seq (.seq (.rg [o1 6 (.copy 0),
   o1 7 (.len 6),
   o1 8 (.copy 1),
   o1 9 (.len 8),
   o1 10 (.data (.bin .neq) [.t 7, .t 9])])
 (.cond (.t 10)
  (.seq (.rg [o1 4 (.lit [.b] [.bool false])])
  .ret)
  .skip))
 (.seq (.join [] 67106864 (some [⟨4, [.b], false⟩]) (.seq (.rg [o1 5 (.lit [.i .i64] [.int .i64 (0)])])
 (.block 0 (.loop [⟨5, [.i .i64], false⟩] 67106864
  (.seq (.seq (.rg [o1 11 (.copy 5),
    o1 12 (.copy 0),
    o1 13 (.len 12),
    o1 14 (.data (.bin .lss) [.t 11, .t 13])])
  (.cond (.t 14)
   .skip
   (.exit 0)))
  (.seq (.block 1 (.seq (.rg [o1 17 (.copy 0),
    o1 18 (.copy 5),
    o1 19 (.index 17 (.t 18)),
    o1 20 (.load 17 [(0, 1)] 0 (.t 19) 1 false),
    o1 21 (.copy 1),
    o1 22 (.copy 5),
    o1 23 (.index 21 (.t 22)),
    o1 24 (.load 21 [(0, 1)] 0 (.t 23) 1 false),
    o1 25 (.data (.bin .neq) [.t 20, .t 24])])
  (.cond (.t 25)
   (.seq (.rg [o1 4 (.lit [.b] [.bool false])])
   .ret)
   .skip)))
  (.rg [o1 15 (.copy 5),
    o1 16 (.data (.bin .add) [.t 15, .c (.int .i64 (1))]),
    o1 5 (.copy 16)])))))))
 (.seq (.rg [o1 4 (.lit [.b] [.bool true])])
 .ret))))
def s_leqIntS : Sig := ⟨[.rd false [.sl (.own none) [.d]], .rd false [.sl (.own none) [.d]]], (.one false [.d])⟩
noncomputable def E_leqIntS : TEnv := envOf []
noncomputable def f_leqIntS (n : Nat) : List (Int) × List (Int) → Option ((Bool) × Unit) := runFn n E_leqIntS c_leqIntS [[.sl [.i .i64]], [.sl [.i .i64]]] [.b] [] [4] .no
noncomputable def g_leqIntS := f_leqIntS BIG
noncomputable def p_leqIntS : TSp := ⟨s_leqIntS, [[.sl [.i .i64]], [.sl [.i .i64]]], [.b], [], Ou.j .no, g_leqIntS⟩
theorem k_leqIntS : chkW PG E_leqIntS 39 s_leqIntS (c_leqIntS.ht 26) .no = some (c_leqIntS.wc E_leqIntS, [4]) := by kernel_rfl
theorem ok_leqIntS : p_leqIntS.Ok PG 39 := mkOk (env_nil PG) k_leqIntS (by kernel_rfl)
theorem e_leqIntS (n : Nat) (a0 : List (Int)) (a1 : List (Int)) : f_leqIntS n (a0, a1) =
  bif !decide ((a0.length : Int) = (a1.length : Int)) then
   some (false, ())
  else Option.bind (loopT n (X := Int) (B := (Unit) ⊕ (Bool)) (fun self1 x0 =>
    bif decide (x0 < (a0.length : Int)) then
     bnd a0.length x0 fun n2 =>
     Option.bind a0[n2]? fun y3 =>
     bnd a1.length x0 fun n4 =>
     Option.bind a1[n4]? fun y5 =>
     bif !decide (y3 = y5) then
      some (Sum.inr false)
     else self1 (IntKind.wrap .i64 (x0 + (1 : Int)))
    else some (Sum.inl ())) (0 : Int) : Option ((Unit) ⊕ (Bool))) fun y => match y with
  | .inl x6 =>
   some (true, ())
  | .inr x6 =>
   some (x6, ()) := by kernel_rfl
/- laws.eqAnswer -/
def c_leqAnswer : TC :=
 (.seq (.rg [o1 2 (.a (.t 0)),
   o1 3 (.a (.t 1)),
   o1 4 (.lit [.b] [.bool false])])
 (.seq (.seq (.rg [o1 5 (.idx .nil),
   o1 6 (.load 2 [] 0 (.t 5) 1 false),
   o1 7 (.idx .nil),
   o1 8 (.load 3 [] 0 (.t 7) 1 false),
   o1 9 (.data (.bin .neq) [.t 6, .t 8])])
 (.cond (.t 9)
  (.seq (.rg [o1 4 (.lit [.b] [.bool false])])
  .ret)
  .skip))
 (.seq (.seq (.rg [o1 10 (.idx .nil),
   o1 11 (.load 2 [] 1 (.t 10) 1 false),
   o1 12 (.idx .nil),
   o1 13 (.load 3 [] 1 (.t 12) 1 false),
   o1 14 (.data (.beq true) [.t 11, .t 13])])
 (.cond (.t 14)
  (.seq (.rg [o1 4 (.lit [.b] [.bool false])])
  .ret)
  .skip))
 (.seq (.seq (.rg [o1 15 (.idx .nil),
   o1 16 (.load 2 [] 2 (.t 15) 1 false),
   o1 17 (.idx .nil),
   o1 18 (.load 3 [] 2 (.t 17) 1 false),
   o3 19 41 [.t 16, .t 18],
   o1 20 (.data .not [.t 19])])
 (.cond (.t 20)
  (.seq (.rg [o1 4 (.lit [.b] [.bool false])])
  .ret)
  .skip))
 (.seq (.seq (.rg [o1 21 (.idx .nil),
   o1 22 (.load 2 [] 3 (.t 21) 1 false),
   o1 23 (.idx .nil),
   o1 24 (.load 3 [] 3 (.t 23) 1 false),
   o3 25 39 [.t 22, .t 24],
   o1 26 (.data .not [.t 25])])
 (.cond (.t 26)
  (.seq (.rg [o1 4 (.lit [.b] [.bool false])])
  .ret)
  .skip))
 (.seq (.rg [o1 4 (.lit [.b] [.bool true])])
 .ret))))))
def s_leqAnswer : Sig := ⟨[.rd true [.d, .d, .sl (.own none) [.d, .d], .sl (.own none) [.d]], .rd true [.d, .d, .sl (.own none) [.d, .d], .sl (.own none) [.d]]], (.one false [.d])⟩
noncomputable def E_leqAnswer : TEnv := envOf [(41, p_leqEdgeS), (39, p_leqIntS)]
noncomputable def f_leqAnswer (n : Nat) : (Int × Bool × List (Int × Int) × List (Int)) × (Int × Bool × List (Int × Int) × List (Int)) → Option ((Bool) × Unit) := runFn n E_leqAnswer c_leqAnswer [[.i .i64, .b, .sl [.i .i64, .i .i64], .sl [.i .i64]], [.i .i64, .b, .sl [.i .i64, .i .i64], .sl [.i .i64]]] [.b] [] [4] .no
noncomputable def g_leqAnswer := f_leqAnswer BIG
noncomputable def p_leqAnswer : TSp := ⟨s_leqAnswer, [[.i .i64, .b, .sl [.i .i64, .i .i64], .sl [.i .i64]], [.i .i64, .b, .sl [.i .i64, .i .i64], .sl [.i .i64]]], [.b], [], Ou.j .no, g_leqAnswer⟩
theorem k_leqAnswer : chkW PG E_leqAnswer 73 s_leqAnswer (c_leqAnswer.ht 27) .no = some (c_leqAnswer.wc E_leqAnswer, [4]) := by kernel_rfl
theorem ok_leqAnswer : p_leqAnswer.Ok PG 73 := mkOk (env_cons ok_leqEdgeS (env_cons ok_leqIntS (env_nil PG))) k_leqAnswer (by kernel_rfl)
theorem e_leqAnswer (n : Nat) (a0 : Int × Bool × List (Int × Int) × List (Int)) (a1 : Int × Bool × List (Int × Int) × List (Int)) : f_leqAnswer n (a0, a1) =
  bif !decide (a0.1 = a1.1) then
   some (false, ())
  else bif !(a0.2.1 == a1.2.1) then
   some (false, ())
  else Option.bind (g_leqEdgeS (a0.2.2.1, a1.2.2.1)) fun r0 =>
  bif !r0.1 then
   some (false, ())
  else Option.bind (g_leqIntS (a0.2.2.2, a1.2.2.2)) fun r1 =>
  bif !r1.1 then
   some (false, ())
  else some (true, ()) := by kernel_rfl
/- laws.eqOrder -/
def c_leqOrder : TC :=
 (.seq (.rg [o1 2 (.a (.t 0)),
   o1 3 (.a (.t 1)),
   o1 4 (.lit [.b] [.bool false])])
 (.seq (.seq (.rg [o1 5 (.idx .nil),
   o1 6 (.load 2 [] 0 (.t 5) 1 false),
   o1 7 (.idx .nil),
   o1 8 (.load 3 [] 0 (.t 7) 1 false),
   o1 9 (.data (.bin .neq) [.t 6, .t 8])])
 (.cond (.t 9)
  (.seq (.rg [o1 4 (.lit [.b] [.bool false])])
  .ret)
  .skip))
 (.seq (.seq (.rg [o1 10 (.idx .nil),
   o1 11 (.load 2 [] 1 (.t 10) 1 false),
   o1 12 (.idx .nil),
   o1 13 (.load 3 [] 1 (.t 12) 1 false),
   o1 14 (.data (.bin .neq) [.t 11, .t 13])])
 (.cond (.t 14)
  (.seq (.rg [o1 4 (.lit [.b] [.bool false])])
  .ret)
  .skip))
 (.seq (.seq (.rg [o1 15 (.idx .nil),
   o1 16 (.load 2 [] 2 (.t 15) 1 false),
   o1 17 (.idx .nil),
   o1 18 (.load 3 [] 2 (.t 17) 1 false),
   o3 19 41 [.t 16, .t 18],
   o1 20 (.data .not [.t 19])])
 (.cond (.t 20)
  (.seq (.rg [o1 4 (.lit [.b] [.bool false])])
  .ret)
  .skip))
 (.seq (.seq (.rg [o1 21 (.idx .nil),
   o1 22 (.load 2 [] 3 (.t 21) 1 false),
   o1 23 (.idx .nil),
   o1 24 (.load 3 [] 3 (.t 23) 1 false),
   o1 25 (.data (.bin .neq) [.t 22, .t 24])])
 (.cond (.t 25)
  (.seq (.rg [o1 4 (.lit [.b] [.bool false])])
  .ret)
  .skip))
 (.seq (.rg [o1 4 (.lit [.b] [.bool true])])
 .ret))))))
def s_leqOrder : Sig := ⟨[.rd true [.d, .d, .sl (.own none) [.d, .d], .d], .rd true [.d, .d, .sl (.own none) [.d, .d], .d]], (.one false [.d])⟩
noncomputable def E_leqOrder : TEnv := envOf [(41, p_leqEdgeS)]
noncomputable def f_leqOrder (n : Nat) : (Int × Int × List (Int × Int) × Int) × (Int × Int × List (Int × Int) × Int) → Option ((Bool) × Unit) := runFn n E_leqOrder c_leqOrder [[.i .i64, .i .i64, .sl [.i .i64, .i .i64], .i .i64], [.i .i64, .i .i64, .sl [.i .i64, .i .i64], .i .i64]] [.b] [] [4] .no
noncomputable def g_leqOrder := f_leqOrder BIG
noncomputable def p_leqOrder : TSp := ⟨s_leqOrder, [[.i .i64, .i .i64, .sl [.i .i64, .i .i64], .i .i64], [.i .i64, .i .i64, .sl [.i .i64, .i .i64], .i .i64]], [.b], [], Ou.j .no, g_leqOrder⟩
theorem k_leqOrder : chkW PG E_leqOrder 57 s_leqOrder (c_leqOrder.ht 26) .no = some (c_leqOrder.wc E_leqOrder, [4]) := by kernel_rfl
theorem ok_leqOrder : p_leqOrder.Ok PG 57 := mkOk (env_cons ok_leqEdgeS (env_nil PG)) k_leqOrder (by kernel_rfl)
theorem e_leqOrder (n : Nat) (a0 : Int × Int × List (Int × Int) × Int) (a1 : Int × Int × List (Int × Int) × Int) : f_leqOrder n (a0, a1) =
  bif !decide (a0.1 = a1.1) then
   some (false, ())
  else bif !decide (a0.2.1 = a1.2.1) then
   some (false, ())
  else Option.bind (g_leqEdgeS (a0.2.2.1, a1.2.2.1)) fun r0 =>
  bif !r0.1 then
   some (false, ())
  else bif !decide (a0.2.2.2 = a1.2.2.2) then
   some (false, ())
  else some (true, ()) := by kernel_rfl
/- laws.eqRec -/
def c_leqRec : TC :=
 (.seq (.rg [o1 2 (.a (.t 0)),
   o1 3 (.a (.t 1)),
   o1 4 (.lit [.b] [.bool false])])
 (.seq (.seq (.rg [o1 5 (.idx .nil),
   o1 6 (.load 2 [] 0 (.t 5) 1 false),
   o1 7 (.idx .nil),
   o1 8 (.load 3 [] 0 (.t 7) 1 false),
   o1 9 (.data (.bin .neq) [.t 6, .t 8])])
 (.cond (.t 9)
  (.seq (.rg [o1 4 (.lit [.b] [.bool false])])
  .ret)
  .skip))
 (.seq (.seq (.rg [o1 10 (.idx .nil),
   o1 11 (.load 2 [] 1 (.t 10) 4 false),
   o1 12 (.idx .nil),
   o1 13 (.load 3 [] 1 (.t 12) 4 false),
   o3 14 239 [.t 11, .t 13],
   o1 15 (.data .not [.t 14])])
 (.cond (.t 15)
  (.seq (.rg [o1 4 (.lit [.b] [.bool false])])
  .ret)
  .skip))
 (.seq (.seq (.rg [o1 16 (.idx .nil),
   o1 17 (.load 2 [] 5 (.t 16) 1 false),
   o1 18 (.idx .nil),
   o1 19 (.load 3 [] 5 (.t 18) 1 false),
   o1 20 (.data (.bin .neq) [.t 17, .t 19])])
 (.cond (.t 20)
  (.seq (.rg [o1 4 (.lit [.b] [.bool false])])
  .ret)
  .skip))
 (.seq (.seq (.rg [o1 21 (.idx .nil),
   o1 22 (.load 2 [] 6 (.t 21) 4 false),
   o1 23 (.idx .nil),
   o1 24 (.load 3 [] 6 (.t 23) 4 false),
   o3 25 73 [.t 22, .t 24],
   o1 26 (.data .not [.t 25])])
 (.cond (.t 26)
  (.seq (.rg [o1 4 (.lit [.b] [.bool false])])
  .ret)
  .skip))
 (.seq (.seq (.rg [o1 27 (.idx .nil),
   o1 28 (.load 2 [] 10 (.t 27) 4 false),
   o1 29 (.idx .nil),
   o1 30 (.load 3 [] 10 (.t 29) 4 false),
   o3 31 57 [.t 28, .t 30],
   o1 32 (.data .not [.t 31])])
 (.cond (.t 32)
  (.seq (.rg [o1 4 (.lit [.b] [.bool false])])
  .ret)
  .skip))
 (.seq (.rg [o1 4 (.lit [.b] [.bool true])])
 .ret)))))))
def s_leqRec : Sig := ⟨[.rd true [.d, .d, .d, .d, .d, .d, .d, .d, .sl (.own none) [.d, .d], .sl (.own none) [.d], .d, .d, .sl (.own none) [.d, .d], .d], .rd true [.d, .d, .d, .d, .d, .d, .d, .d, .sl (.own none) [.d, .d], .sl (.own none) [.d], .d, .d, .sl (.own none) [.d, .d], .d]], (.one false [.d])⟩
noncomputable def E_leqRec : TEnv := envOf [(239, p_leqAsk), (73, p_leqAnswer), (57, p_leqOrder)]
noncomputable def f_leqRec (n : Nat) : (Int × Int × Int × Int × Int × Int × Int × Bool × List (Int × Int) × List (Int) × Int × Int × List (Int × Int) × Int) × (Int × Int × Int × Int × Int × Int × Int × Bool × List (Int × Int) × List (Int) × Int × Int × List (Int × Int) × Int) → Option ((Bool) × Unit) := runFn n E_leqRec c_leqRec [[.i .i64, .i .i64, .i .i64, .i .i64, .i .i64, .i .i64, .i .i64, .b, .sl [.i .i64, .i .i64], .sl [.i .i64], .i .i64, .i .i64, .sl [.i .i64, .i .i64], .i .i64], [.i .i64, .i .i64, .i .i64, .i .i64, .i .i64, .i .i64, .i .i64, .b, .sl [.i .i64, .i .i64], .sl [.i .i64], .i .i64, .i .i64, .sl [.i .i64, .i .i64], .i .i64]] [.b] [] [4] .no
noncomputable def g_leqRec := f_leqRec BIG
noncomputable def p_leqRec : TSp := ⟨s_leqRec, [[.i .i64, .i .i64, .i .i64, .i .i64, .i .i64, .i .i64, .i .i64, .b, .sl [.i .i64, .i .i64], .sl [.i .i64], .i .i64, .i .i64, .sl [.i .i64, .i .i64], .i .i64], [.i .i64, .i .i64, .i .i64, .i .i64, .i .i64, .i .i64, .i .i64, .b, .sl [.i .i64, .i .i64], .sl [.i .i64], .i .i64, .i .i64, .sl [.i .i64, .i .i64], .i .i64]], [.b], [], Ou.j .no, g_leqRec⟩
theorem k_leqRec : chkW PG E_leqRec 102 s_leqRec (c_leqRec.ht 33) .no = some (c_leqRec.wc E_leqRec, [4]) := by kernel_rfl
theorem ok_leqRec : p_leqRec.Ok PG 102 := mkOk (env_cons ok_leqAsk (env_cons ok_leqAnswer (env_cons ok_leqOrder (env_nil PG)))) k_leqRec (by kernel_rfl)
theorem e_leqRec (n : Nat) (a0 : Int × Int × Int × Int × Int × Int × Int × Bool × List (Int × Int) × List (Int) × Int × Int × List (Int × Int) × Int) (a1 : Int × Int × Int × Int × Int × Int × Int × Bool × List (Int × Int) × List (Int) × Int × Int × List (Int × Int) × Int) : f_leqRec n (a0, a1) =
  bif !decide (a0.1 = a1.1) then
   some (false, ())
  else Option.bind (g_leqAsk ((a0.2.1, a0.2.2.1, a0.2.2.2.1, a0.2.2.2.2.1), (a1.2.1, a1.2.2.1, a1.2.2.2.1, a1.2.2.2.2.1))) fun r0 =>
  bif !r0.1 then
   some (false, ())
  else bif !decide (a0.2.2.2.2.2.1 = a1.2.2.2.2.2.1) then
   some (false, ())
  else Option.bind (g_leqAnswer ((a0.2.2.2.2.2.2.1, a0.2.2.2.2.2.2.2.1, a0.2.2.2.2.2.2.2.2.1, a0.2.2.2.2.2.2.2.2.2.1), (a1.2.2.2.2.2.2.1, a1.2.2.2.2.2.2.2.1, a1.2.2.2.2.2.2.2.2.1, a1.2.2.2.2.2.2.2.2.2.1))) fun r1 =>
  bif !r1.1 then
   some (false, ())
  else Option.bind (g_leqOrder (a0.2.2.2.2.2.2.2.2.2.2, a1.2.2.2.2.2.2.2.2.2.2)) fun r2 =>
  bif !r2.1 then
   some (false, ())
  else some (true, ()) := by kernel_rfl
end Go.Fw
