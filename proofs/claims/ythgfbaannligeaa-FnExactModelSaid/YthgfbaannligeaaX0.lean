/- The given functions, as what they compute; each is shown to be what the code does. No conditions. -/
import Derived.Test.YthgfbaannligeaaG4
import Derived.Test.YthgfbaannligeaaProg
set_option linter.unusedVariables false
set_option linter.unusedSimpArgs false
namespace Go.Fw
noncomputable abbrev PG := Go.Proofs.Try.prog
def o2 (d : Nat) (e : ED) (j : Nat) (b : Bool) : TO := ⟨false, [], [], .det 1 e, [d], some d, some (j, b)⟩
def o3 (d : Nat) (K : FuncId) (gets : List OY) : TO := ⟨false, [], [], .call 1 K gets .no, [d], some d, none⟩
def o4 (n : Nat) (ds : List Nat) (e : ED) : TO := ⟨false, [], [], .det n e, ds, none, none⟩
end Go.Fw
namespace Go.Fw
/- laws.szEdgeS -/
def c_lszEdgeS : TC :=
 (.seq (.rg [o1 4 (.lit [.i .i64] [.int .i64 (0)])])
 (.seq (.rg [o1 5 (.copy 1),
   o1 6 (.copy 0),
   o1 7 (.len 6),
   o1 8 (.data (.bin .sub) [.t 5, .t 7]),
   o1 1 (.copy 8)])
 (.seq (.seq (.rg [o1 9 (.copy 1),
   o1 10 (.data (.bin .lss) [.t 9, .c (.int .i64 (0))])])
 (.cond (.t 10)
  (.seq (.rg [o1 4 (.lit [.i .i64] [.int .i64 (-1)])])
  .ret)
  .skip))
 (.seq (.rg [o1 11 (.copy 1),
   o1 4 (.copy 11)])
 .ret))))
def s_lszEdgeS : Sig := ⟨[.rd false [.sl (.own none) [.d, .d]], .rd false [.d]], (.one false [.d])⟩
noncomputable def E_lszEdgeS : TEnv := envOf []
noncomputable def f_lszEdgeS (n : Nat) : (List (Int × Int)) × Int → Option ((Int) × Unit) := runFn n E_lszEdgeS c_lszEdgeS [[.sl [.i .i64, .i .i64]], [.i .i64]] [.i .i64] [] [4] .no
noncomputable def g_lszEdgeS := f_lszEdgeS BIG
noncomputable def p_lszEdgeS : TSp := ⟨s_lszEdgeS, [[.sl [.i .i64, .i .i64]], [.i .i64]], [.i .i64], [], Ou.j .no, g_lszEdgeS⟩
theorem k_lszEdgeS : chkW PG E_lszEdgeS 34 s_lszEdgeS (c_lszEdgeS.ht 12) .no = some (c_lszEdgeS.wc E_lszEdgeS, [4]) := by kernel_rfl
theorem ok_lszEdgeS : p_lszEdgeS.Ok PG 34 := mkOk (env_nil PG) k_lszEdgeS (by kernel_rfl)
theorem e_lszEdgeS (n : Nat) (a0 : List (Int × Int)) (a1 : Int) : f_lszEdgeS n (a0, a1) =
  bif decide ((IntKind.wrap .i64 (a1 - (a0.length : Int))) < (0 : Int)) then
   some ((-1 : Int), ())
  else some (IntKind.wrap .i64 (a1 - (a0.length : Int)), ()) := by kernel_rfl
/- laws.szGraph -/
def c_lszGraph : TC :=
 (.seq (.rg [o1 2 (.a (.t 0)),
   o1 4 (.lit [.i .i64] [.int .i64 (0)])])
 (.seq (.rg [o1 5 (.idx .nil),
   o1 6 (.load 2 [] 1 (.t 5) 1 false),
   o1 7 (.copy 1),
   o3 8 34 [.t 6, .t 7],
   o1 1 (.copy 8)])
 (.seq (.seq (.rg [o1 9 (.copy 1),
   o1 10 (.data (.bin .lss) [.t 9, .c (.int .i64 (0))])])
 (.cond (.t 10)
  (.seq (.rg [o1 4 (.lit [.i .i64] [.int .i64 (-1)])])
  .ret)
  .skip))
 (.seq (.rg [o1 11 (.copy 1),
   o1 4 (.copy 11)])
 .ret))))
def s_lszGraph : Sig := ⟨[.rd true [.d, .sl (.own none) [.d, .d]], .rd false [.d]], (.one false [.d])⟩
noncomputable def E_lszGraph : TEnv := envOf [(34, p_lszEdgeS)]
noncomputable def f_lszGraph (n : Nat) : (Int × List (Int × Int)) × Int → Option ((Int) × Unit) := runFn n E_lszGraph c_lszGraph [[.i .i64, .sl [.i .i64, .i .i64]], [.i .i64]] [.i .i64] [] [4] .no
noncomputable def g_lszGraph := f_lszGraph BIG
noncomputable def p_lszGraph : TSp := ⟨s_lszGraph, [[.i .i64, .sl [.i .i64, .i .i64]], [.i .i64]], [.i .i64], [], Ou.j .no, g_lszGraph⟩
theorem k_lszGraph : chkW PG E_lszGraph 88 s_lszGraph (c_lszGraph.ht 12) .no = some (c_lszGraph.wc E_lszGraph, [4]) := by kernel_rfl
theorem ok_lszGraph : p_lszGraph.Ok PG 88 := mkOk (env_cons ok_lszEdgeS (env_nil PG)) k_lszGraph (by kernel_rfl)
theorem e_lszGraph (n : Nat) (a0 : Int × List (Int × Int)) (a1 : Int) : f_lszGraph n (a0, a1) =
  Option.bind (g_lszEdgeS (a0.2, a1)) fun r0 =>
  bif decide (r0.1 < (0 : Int)) then
   some ((-1 : Int), ())
  else some (r0.1, ()) := by kernel_rfl
/- laws.toEdge -/
def c_ltoEdge : TC :=
 (.seq (.rg [o1 1 (.a (.t 0)),
   ⟨false, [], [], .det 2 (.a (.c [.i .i64, .i .i64] [.int .i64 (0), .int .i64 (0)])), [2, 1000000001], (some 2), none⟩])
 (.seq (.rg [⟨false, [], [], .det 2 (.a (.c [.i .i64, .i .i64] [.int .i64 (0), .int .i64 (0)])), [3, 1000000001], (some 3), none⟩])
 (.seq (.rg [o1 4 (.idx .nil),
   o1 5 (.load 1 [] 0 (.t 4) 1 false),
   o1 6 (.idx .nil),
   o4 1 [3] (.store 3 [] 0 (.t 6) (.t 5))])
 (.seq (.rg [o1 7 (.idx .nil),
   o1 8 (.load 1 [] 1 (.t 7) 1 false),
   o1 9 (.idx .nil),
   o4 1 [3] (.store 3 [] 1 (.t 9) (.t 8))])
 (.seq (.rg [o1 10 (.load 3 [] 0 .nil 2 false),
   o4 1 [2] (.store 2 [] 0 .nil (.t 10))])
 .ret)))))
def s_ltoEdge : Sig := ⟨[.rd true [.d, .d]], (.one true [.d, .d])⟩
noncomputable def E_ltoEdge : TEnv := envOf []
noncomputable def f_ltoEdge (n : Nat) : (Int × Int) → Option ((Int × Int) × Unit) := runFn n E_ltoEdge c_ltoEdge [[.i .i64, .i .i64]] [.i .i64, .i .i64] [] [2] .no
noncomputable def g_ltoEdge := f_ltoEdge BIG
noncomputable def p_ltoEdge : TSp := ⟨s_ltoEdge, [[.i .i64, .i .i64]], [.i .i64, .i .i64], [], Ou.j .no, g_ltoEdge⟩
theorem k_ltoEdge : chkW PG E_ltoEdge 170 s_ltoEdge (c_ltoEdge.ht 11) .no = some (c_ltoEdge.wc E_ltoEdge, [2]) := by kernel_rfl
theorem ok_ltoEdge : p_ltoEdge.Ok PG 170 := mkOk (env_nil PG) k_ltoEdge (by kernel_rfl)
theorem e_ltoEdge (n : Nat) (a0 : Int × Int) : f_ltoEdge n a0 =
  some (a0, ()) := by kernel_rfl
/- laws.toEdgeS -/
def c_ltoEdgeS : TC :=
 (.seq (.rg [o1 2 (.lit [.sl [.i .i64, .i .i64]] [.slice none 0 0])])
 (.seq (.rg [o1 5 (.copy 0),
   o1 6 (.len 5),
   o1 7 (.make (.t 6) [.i .i64, .i .i64]),
   ⟨false, [], [], .det 2 (.copy 7), [3, 7], (some 3), none⟩])
 (.seq (.join [⟨3, [.sl [.i .i64, .i .i64]], false⟩] 4194072 none (.seq (.rg [o1 4 (.lit [.i .i64] [.int .i64 (0)])])
 (.block 0 (.loop [⟨3, [.sl [.i .i64, .i .i64]], false⟩, ⟨4, [.i .i64], false⟩] 4194072
  (.seq (.seq (.rg [o1 8 (.copy 4),
    o1 9 (.copy 0),
    o1 10 (.len 9),
    o1 11 (.data (.bin .lss) [.t 8, .t 10])])
  (.cond (.t 11)
   .skip
   (.exit 0)))
  (.seq (.block 1 (.rg [⟨true, [], [], .det 1 (.copy 3), [14], (some 14), none⟩,
    o1 15 (.copy 4),
    o1 16 (.copy 0),
    o1 17 (.copy 4),
    o1 18 (.index 16 (.t 17)),
    o1 19 (.load 16 [(0, 2)] 0 (.t 18) 2 false),
    o3 20 170 [.t 19],
    o1 21 (.index 14 (.t 15)),
    o4 1 [3, 14] (.store 3 [(0, 2)] 0 (.t 21) (.t 20))]))
  (.rg [o1 12 (.copy 4),
    o1 13 (.data (.bin .add) [.t 12, .c (.int .i64 (1))]),
    o1 4 (.copy 13)])))))))
 (.seq (.rg [⟨false, [], [], .det 2 (.copy 3), [22, 3], (some 22), none⟩,
   ⟨false, [], [], .det 2 (.copy 22), [2, 22], (some 2), none⟩])
 .ret))))
def s_ltoEdgeS : Sig := ⟨[.rd false [.sl (.own none) [.d, .d]]], (.one false [.sl (.own none) [.d, .d]])⟩
noncomputable def E_ltoEdgeS : TEnv := envOf [(170, p_ltoEdge)]
noncomputable def f_ltoEdgeS (n : Nat) : (List (Int × Int)) → Option ((List (Int × Int)) × Unit) := runFn n E_ltoEdgeS c_ltoEdgeS [[.sl [.i .i64, .i .i64]]] [.sl [.i .i64, .i .i64]] [] [2] .no
noncomputable def g_ltoEdgeS := f_ltoEdgeS BIG
noncomputable def p_ltoEdgeS : TSp := ⟨s_ltoEdgeS, [[.sl [.i .i64, .i .i64]]], [.sl [.i .i64, .i .i64]], [], Ou.j .no, g_ltoEdgeS⟩
theorem k_ltoEdgeS : chkW PG E_ltoEdgeS 37 s_ltoEdgeS (c_ltoEdgeS.ht 23) .no = some (c_ltoEdgeS.wc E_ltoEdgeS, [2]) := by kernel_rfl
theorem ok_ltoEdgeS : p_ltoEdgeS.Ok PG 37 := mkOk (env_cons ok_ltoEdge (env_nil PG)) k_ltoEdgeS (by kernel_rfl)
theorem e_ltoEdgeS (n : Nat) (a0 : List (Int × Int)) : f_ltoEdgeS n a0 =
  bif decide (0 ≤ (a0.length : Int)) then
   bif decide ((Int.toNat (a0.length : Int)) ≤ 4294967296) then
    Option.bind (loopT n (X := (List (Int × Int)) × Int) (B := (List (Int × Int))) (fun self1 x0 =>
      bif decide (x0.2 < (a0.length : Int)) then
       bnd a0.length x0.2 fun n2 =>
       Option.bind a0[n2]? fun y3 =>
       Option.bind (g_ltoEdge y3) fun r4 =>
       bnd x0.1.length x0.2 fun n5 =>
       Option.bind x0.1[n5]? fun y6 =>
       self1 (x0.1.set n5 r4.1, IntKind.wrap .i64 (x0.2 + (1 : Int)))
      else some x0.1) (List.replicate (Int.toNat (a0.length : Int)) ((0 : Int), (0 : Int)), (0 : Int)) : Option ((List (Int × Int)))) fun x7 =>
    some (x7, ())
   else none
  else none := by kernel_rfl
/- laws.toGraph -/
def c_ltoGraph : TC :=
 (.seq (.rg [o1 1 (.a (.t 0)),
   ⟨false, [], [], .det 2 (.a (.c [.i .i64, .sl [.i .i64, .i .i64]] [.int .i64 (0), .slice none 0 0])), [2, 1000000001], (some 2), none⟩])
 (.seq (.rg [⟨false, [], [], .det 2 (.a (.c [.i .i64, .sl [.i .i64, .i .i64]] [.int .i64 (0), .slice none 0 0])), [3, 1000000001], (some 3), none⟩])
 (.seq (.rg [o1 4 (.idx .nil),
   o1 5 (.load 1 [] 0 (.t 4) 1 false),
   o1 6 (.idx .nil),
   o4 1 [3] (.store 3 [] 0 (.t 6) (.t 5))])
 (.seq (.rg [o1 7 (.idx .nil),
   o1 8 (.load 1 [] 1 (.t 7) 1 false),
   o3 9 37 [.t 8],
   o1 10 (.idx .nil),
   o4 2 [3, 9] (.store 3 [] 1 (.t 10) (.t 9))])
 (.seq (.rg [o1 11 (.load 3 [] 0 .nil 2 true),
   ⟨false, [11], [], .det 2 (.store 2 [] 0 .nil (.t 11)), [2, 11, 11, 3], none, none⟩])
 .ret)))))
def s_ltoGraph : Sig := ⟨[.rd true [.d, .sl (.own none) [.d, .d]]], (.one true [.d, .sl (.own none) [.d, .d]])⟩
noncomputable def E_ltoGraph : TEnv := envOf [(37, p_ltoEdgeS)]
noncomputable def f_ltoGraph (n : Nat) : (Int × List (Int × Int)) → Option ((Int × List (Int × Int)) × Unit) := runFn n E_ltoGraph c_ltoGraph [[.i .i64, .sl [.i .i64, .i .i64]]] [.i .i64, .sl [.i .i64, .i .i64]] [] [2] .no
noncomputable def g_ltoGraph := f_ltoGraph BIG
noncomputable def p_ltoGraph : TSp := ⟨s_ltoGraph, [[.i .i64, .sl [.i .i64, .i .i64]]], [.i .i64, .sl [.i .i64, .i .i64]], [], Ou.j .no, g_ltoGraph⟩
theorem k_ltoGraph : chkW PG E_ltoGraph 90 s_ltoGraph (c_ltoGraph.ht 12) .no = some (c_ltoGraph.wc E_ltoGraph, [2]) := by kernel_rfl
theorem ok_ltoGraph : p_ltoGraph.Ok PG 90 := mkOk (env_cons ok_ltoEdgeS (env_nil PG)) k_ltoGraph (by kernel_rfl)
theorem e_ltoGraph (n : Nat) (a0 : Int × List (Int × Int)) : f_ltoGraph n a0 =
  Option.bind (g_ltoEdgeS a0.2) fun r0 =>
  some ((a0.1, r0.1), ()) := by kernel_rfl
/- laws.toAsk -/
def c_ltoAsk : TC :=
 (.seq (.rg [o1 1 (.a (.t 0)),
   ⟨false, [], [], .det 2 (.a (.c [.i .i64, .i .i64, .i .i64, .i .i64] [.int .i64 (0), .int .i64 (0), .int .i64 (0), .int .i64 (0)])), [2, 1000000001], (some 2), none⟩])
 (.seq (.rg [⟨false, [], [], .det 2 (.a (.c [.i .i64, .i .i64, .i .i64, .i .i64] [.int .i64 (0), .int .i64 (0), .int .i64 (0), .int .i64 (0)])), [3, 1000000001], (some 3), none⟩])
 (.seq (.rg [o1 4 (.idx .nil),
   o1 5 (.load 1 [] 0 (.t 4) 1 false),
   o1 6 (.idx .nil),
   o4 1 [3] (.store 3 [] 0 (.t 6) (.t 5))])
 (.seq (.rg [o1 7 (.idx .nil),
   o1 8 (.load 1 [] 1 (.t 7) 1 false),
   o1 9 (.idx .nil),
   o4 1 [3] (.store 3 [] 1 (.t 9) (.t 8))])
 (.seq (.rg [o1 10 (.idx .nil),
   o1 11 (.load 1 [] 2 (.t 10) 1 false),
   o1 12 (.idx .nil),
   o4 1 [3] (.store 3 [] 2 (.t 12) (.t 11))])
 (.seq (.rg [o1 13 (.idx .nil),
   o1 14 (.load 1 [] 3 (.t 13) 1 false),
   o1 15 (.idx .nil),
   o4 1 [3] (.store 3 [] 3 (.t 15) (.t 14))])
 (.seq (.rg [o1 16 (.load 3 [] 0 .nil 4 false),
   o4 1 [2] (.store 2 [] 0 .nil (.t 16))])
 .ret)))))))
def s_ltoAsk : Sig := ⟨[.rd true [.d, .d, .d, .d]], (.one true [.d, .d, .d, .d])⟩
noncomputable def E_ltoAsk : TEnv := envOf []
noncomputable def f_ltoAsk (n : Nat) : (Int × Int × Int × Int) → Option ((Int × Int × Int × Int) × Unit) := runFn n E_ltoAsk c_ltoAsk [[.i .i64, .i .i64, .i .i64, .i .i64]] [.i .i64, .i .i64, .i .i64, .i .i64] [] [2] .no
noncomputable def g_ltoAsk := f_ltoAsk BIG
noncomputable def p_ltoAsk : TSp := ⟨s_ltoAsk, [[.i .i64, .i .i64, .i .i64, .i .i64]], [.i .i64, .i .i64, .i .i64, .i .i64], [], Ou.j .no, g_ltoAsk⟩
theorem k_ltoAsk : chkW PG E_ltoAsk 91 s_ltoAsk (c_ltoAsk.ht 17) .no = some (c_ltoAsk.wc E_ltoAsk, [2]) := by kernel_rfl
theorem ok_ltoAsk : p_ltoAsk.Ok PG 91 := mkOk (env_nil PG) k_ltoAsk (by kernel_rfl)
theorem e_ltoAsk (n : Nat) (a0 : Int × Int × Int × Int) : f_ltoAsk n a0 =
  some (a0, ()) := by kernel_rfl
/- spec.l01In -/
def c_sl01In : TC :=
 (.seq (.rg [o1 6 (.lit [.b] [.bool false])])
 (.seq (.join [⟨6, [.b], false⟩] 32704 none (.rg [o1 7 (.copy 0),
   o1 8 (.copy 1),
   o1 9 (.data (.bin .geq) [.t 7, .t 8]),
   o1 10 (.copy 9),
   o2 11 (.copy 0) 3 true,
   o2 12 (.copy 2) 3 true,
   o2 13 (.data (.bin .leq) [.t 11, .t 12]) 3 true,
   ⟨false, [], [], .pick 10 (.t 13) (.c (.bool false)), [14], (some 14), none⟩,
   o1 6 (.copy 14)]))
 .ret))
def s_sl01In : Sig := ⟨[.rd false [.d], .rd false [.d], .rd false [.d]], (.one false [.d])⟩
noncomputable def E_sl01In : TEnv := envOf []
noncomputable def f_sl01In (n : Nat) : Int × Int × Int → Option ((Bool) × Unit) := runFn n E_sl01In c_sl01In [[.i .i64], [.i .i64], [.i .i64]] [.b] [] [6] .no
noncomputable def g_sl01In := f_sl01In BIG
noncomputable def p_sl01In : TSp := ⟨s_sl01In, [[.i .i64], [.i .i64], [.i .i64]], [.b], [], Ou.j .no, g_sl01In⟩
theorem k_sl01In : chkW PG E_sl01In 163 s_sl01In (c_sl01In.ht 15) .no = some (c_sl01In.wc E_sl01In, [6]) := by kernel_rfl
theorem ok_sl01In : p_sl01In.Ok PG 163 := mkOk (env_nil PG) k_sl01In (by kernel_rfl)
theorem e_sl01In (n : Nat) (a0 : Int) (a1 : Int) (a2 : Int) : f_sl01In n (a0, a1, a2) =
  Option.bind (bif decide (a1 ≤ a0) then
    some (decide (a0 ≤ a2))
   else some false : Option (Bool)) fun x0 =>
  some (x0, ()) := by kernel_rfl
/- spec.EdgeOk -/
def c_sEdgeOk : TC :=
 (.seq (.rg [o1 3 (.a (.t 1)),
   o1 4 (.lit [.b] [.bool false])])
 (.seq (.join [⟨4, [.b], false⟩] 268435440 none (.rg [o1 5 (.copy 0),
   o3 6 163 [.t 5, .c [.i .i64] [.int .i64 (1)], .c [.i .i64] [.int .i64 (12)]],
   o1 7 (.copy 6),
   o2 8 (.idx .nil) 2 true,
   o2 9 (.load 3 [] 0 (.t 8) 1 false) 2 true,
   o2 10 (.copy 0) 2 true,
   o2 11 (.data (.bin .sub) [.t 10, .c (.int .i64 (1))]) 2 true,
   ⟨false, [], [], .call 1 163 [.t 9, .c [.i .i64] [.int .i64 (0)], .t 11] .no, [12], (some 12), some (2, true)⟩,
   ⟨false, [], [], .pick 7 (.t 12) (.c (.bool false)), [13], (some 13), none⟩,
   o1 14 (.copy 13),
   o2 15 (.idx .nil) 9 true,
   o2 16 (.load 3 [] 1 (.t 15) 1 false) 9 true,
   o2 17 (.copy 0) 9 true,
   o2 18 (.data (.bin .sub) [.t 17, .c (.int .i64 (1))]) 9 true,
   ⟨false, [], [], .call 1 163 [.t 16, .c [.i .i64] [.int .i64 (0)], .t 18] .no, [19], (some 19), some (9, true)⟩,
   ⟨false, [], [], .pick 14 (.t 19) (.c (.bool false)), [20], (some 20), none⟩,
   o1 21 (.copy 20),
   o2 22 (.idx .nil) 16 true,
   o2 23 (.load 3 [] 0 (.t 22) 1 false) 16 true,
   o2 24 (.idx .nil) 16 true,
   o2 25 (.load 3 [] 1 (.t 24) 1 false) 16 true,
   o2 26 (.data (.bin .lss) [.t 23, .t 25]) 16 true,
   ⟨false, [], [], .pick 21 (.t 26) (.c (.bool false)), [27], (some 27), none⟩,
   o1 4 (.copy 27)]))
 .ret))
def s_sEdgeOk : Sig := ⟨[.rd false [.d], .rd true [.d, .d]], (.one false [.d])⟩
noncomputable def E_sEdgeOk : TEnv := envOf [(163, p_sl01In)]
noncomputable def f_sEdgeOk (n : Nat) : Int × (Int × Int) → Option ((Bool) × Unit) := runFn n E_sEdgeOk c_sEdgeOk [[.i .i64], [.i .i64, .i .i64]] [.b] [] [4] .no
noncomputable def g_sEdgeOk := f_sEdgeOk BIG
noncomputable def p_sEdgeOk : TSp := ⟨s_sEdgeOk, [[.i .i64], [.i .i64, .i .i64]], [.b], [], Ou.j .no, g_sEdgeOk⟩
theorem k_sEdgeOk : chkW PG E_sEdgeOk 167 s_sEdgeOk (c_sEdgeOk.ht 28) .no = some (c_sEdgeOk.wc E_sEdgeOk, [4]) := by kernel_rfl
theorem ok_sEdgeOk : p_sEdgeOk.Ok PG 167 := mkOk (env_cons ok_sl01In (env_nil PG)) k_sEdgeOk (by kernel_rfl)
theorem e_sEdgeOk (n : Nat) (a0 : Int) (a1 : Int × Int) : f_sEdgeOk n (a0, a1) =
  Option.bind (Option.bind (g_sl01In (a0, (1 : Int), (12 : Int))) fun r0 =>
   bif r0.1 then
    Option.bind (g_sl01In (a1.1, (0 : Int), IntKind.wrap .i64 (a0 - (1 : Int)))) fun r1 =>
    bif r1.1 then
     Option.bind (g_sl01In (a1.2, (0 : Int), IntKind.wrap .i64 (a0 - (1 : Int)))) fun r2 =>
     bif r2.1 then
      some (decide (a1.1 < a1.2))
     else some false
    else some false
   else some false : Option (Bool)) fun x3 =>
  some (x3, ()) := by kernel_rfl
/- spec.l05Less -/
def c_sl05Less : TC :=
 (.seq (.rg [o1 2 (.a (.t 0)),
   o1 3 (.a (.t 1)),
   o1 4 (.lit [.b] [.bool false])])
 (.seq (.join [⟨4, [.b], false⟩] 16777200 none (.rg [o1 5 (.idx .nil),
   o1 6 (.load 2 [] 0 (.t 5) 1 false),
   o1 7 (.idx .nil),
   o1 8 (.load 3 [] 0 (.t 7) 1 false),
   o1 9 (.data (.bin .lss) [.t 6, .t 8]),
   o1 10 (.copy 9),
   o2 11 (.idx .nil) 5 false,
   o2 12 (.load 2 [] 0 (.t 11) 1 false) 5 false,
   o2 13 (.idx .nil) 5 false,
   o2 14 (.load 3 [] 0 (.t 13) 1 false) 5 false,
   o2 15 (.data (.bin .eql) [.t 12, .t 14]) 5 false,
   o2 16 (.copy 15) 5 false,
   o2 17 (.idx .nil) 11 true,
   o2 18 (.load 2 [] 1 (.t 17) 1 false) 11 true,
   o2 19 (.idx .nil) 11 true,
   o2 20 (.load 3 [] 1 (.t 19) 1 false) 11 true,
   o2 21 (.data (.bin .lss) [.t 18, .t 20]) 11 true,
   ⟨false, [], [], .pick 16 (.t 21) (.c (.bool false)), [22], (some 22), some (5, false)⟩,
   ⟨false, [], [], .pick 10 (.c (.bool true)) (.t 22), [23], (some 23), none⟩,
   o1 4 (.copy 23)]))
 .ret))
def s_sl05Less : Sig := ⟨[.rd true [.d, .d], .rd true [.d, .d]], (.one false [.d])⟩
noncomputable def E_sl05Less : TEnv := envOf []
noncomputable def f_sl05Less (n : Nat) : (Int × Int) × (Int × Int) → Option ((Bool) × Unit) := runFn n E_sl05Less c_sl05Less [[.i .i64, .i .i64], [.i .i64, .i .i64]] [.b] [] [4] .no
noncomputable def g_sl05Less := f_sl05Less BIG
noncomputable def p_sl05Less : TSp := ⟨s_sl05Less, [[.i .i64, .i .i64], [.i .i64, .i .i64]], [.b], [], Ou.j .no, g_sl05Less⟩
theorem k_sl05Less : chkW PG E_sl05Less 317 s_sl05Less (c_sl05Less.ht 24) .no = some (c_sl05Less.wc E_sl05Less, [4]) := by kernel_rfl
theorem ok_sl05Less : p_sl05Less.Ok PG 317 := mkOk (env_nil PG) k_sl05Less (by kernel_rfl)
theorem e_sl05Less (n : Nat) (a0 : Int × Int) (a1 : Int × Int) : f_sl05Less n (a0, a1) =
  Option.bind (bif decide (a0.1 < a1.1) then
    some true
   else bif decide (a0.1 = a1.1) then
    some (decide (a0.2 < a1.2))
   else some false : Option (Bool)) fun x0 =>
  some (x0, ()) := by kernel_rfl
/- spec.l05Edges -/
def c_sl05Edges : TC :=
 (.seq (.rg [o1 4 (.lit [.b] [.bool false])])
 (.seq (.join [] 68719476720 (some [⟨4, [.b], false⟩]) (.seq (.rg [o1 5 (.lit [.i .i64] [.int .i64 (0)])])
 (.block 0 (.loop [⟨5, [.i .i64], false⟩] 68719476720
  (.seq (.seq (.rg [o1 6 (.copy 5),
    o1 7 (.copy 1),
    o1 8 (.len 7),
    o1 9 (.data (.bin .lss) [.t 6, .t 8])])
  (.cond (.t 9)
   .skip
   (.exit 0)))
  (.seq (.join [] 68719472656 (some [⟨4, [.b], false⟩]) (.block 1 (.seq (.join [⟨35, [.b], false⟩] 68719472640 none (.rg [o1 12 (.copy 0),
    o1 13 (.copy 1),
    o1 14 (.copy 5),
    o1 15 (.index 13 (.t 14)),
    o1 16 (.load 13 [(0, 2)] 0 (.t 15) 2 false),
    o3 17 167 [.t 12, .t 16],
    o1 18 (.data .not [.t 17]),
    o1 19 (.copy 18),
    o2 20 (.copy 5) 7 false,
    o2 21 (.data (.bin .gtr) [.t 20, .c (.int .i64 (0))]) 7 false,
    o2 22 (.copy 21) 7 false,
    o2 23 (.copy 1) 10 true,
    o2 24 (.copy 5) 10 true,
    o2 25 (.data (.bin .sub) [.t 24, .c (.int .i64 (1))]) 10 true,
    o2 26 (.index 23 (.t 25)) 10 true,
    o2 27 (.load 23 [(0, 2)] 0 (.t 26) 2 false) 10 true,
    o2 28 (.copy 1) 10 true,
    o2 29 (.copy 5) 10 true,
    o2 30 (.index 28 (.t 29)) 10 true,
    o2 31 (.load 28 [(0, 2)] 0 (.t 30) 2 false) 10 true,
    ⟨false, [], [], .call 1 317 [.t 27, .t 31] .no, [32], (some 32), some (10, true)⟩,
    o2 33 (.data .not [.t 32]) 10 true,
    ⟨false, [], [], .pick 22 (.t 33) (.c (.bool false)), [34], (some 34), some (7, false)⟩,
    ⟨false, [], [], .pick 19 (.c (.bool true)) (.t 34), [35], (some 35), none⟩]))
  (.cond (.t 35)
   (.seq (.rg [o1 4 (.lit [.b] [.bool false])])
   .ret)
   .skip))))
  (.rg [o1 10 (.copy 5),
    o1 11 (.data (.bin .add) [.t 10, .c (.int .i64 (1))]),
    o1 5 (.copy 11)])))))))
 (.seq (.rg [o1 36 (.copy 1),
   o1 37 (.len 36),
   o1 38 (.data (.bin .leq) [.t 37, .c (.int .i64 (66))]),
   o1 4 (.copy 38)])
 .ret)))
def s_sl05Edges : Sig := ⟨[.rd false [.d], .rd false [.sl (.own none) [.d, .d]]], (.one false [.d])⟩
noncomputable def E_sl05Edges : TEnv := envOf [(167, p_sEdgeOk), (317, p_sl05Less)]
noncomputable def f_sl05Edges (n : Nat) : Int × (List (Int × Int)) → Option ((Bool) × Unit) := runFn n E_sl05Edges c_sl05Edges [[.i .i64], [.sl [.i .i64, .i .i64]]] [.b] [] [4] .no
noncomputable def g_sl05Edges := f_sl05Edges BIG
noncomputable def p_sl05Edges : TSp := ⟨s_sl05Edges, [[.i .i64], [.sl [.i .i64, .i .i64]]], [.b], [], Ou.j .no, g_sl05Edges⟩
theorem k_sl05Edges : chkW PG E_sl05Edges 228 s_sl05Edges (c_sl05Edges.ht 39) .no = some (c_sl05Edges.wc E_sl05Edges, [4]) := by kernel_rfl
theorem ok_sl05Edges : p_sl05Edges.Ok PG 228 := mkOk (env_cons ok_sEdgeOk (env_cons ok_sl05Less (env_nil PG))) k_sl05Edges (by kernel_rfl)
theorem e_sl05Edges (n : Nat) (a0 : Int) (a1 : List (Int × Int)) : f_sl05Edges n (a0, a1) =
  Option.bind (loopT n (X := Int) (B := (Unit) ⊕ (Bool)) (fun self1 x0 =>
    bif decide (x0 < (a1.length : Int)) then
     Option.bind (Option.bind (bnd a1.length x0 fun n2 =>
       Option.bind a1[n2]? fun y3 =>
       Option.bind (g_sEdgeOk (a0, y3)) fun r4 =>
       bif !r4.1 then
        some true
       else bif decide ((0 : Int) < x0) then
        bnd a1.length (IntKind.wrap .i64 (x0 - (1 : Int))) fun n5 =>
        Option.bind a1[n5]? fun y6 =>
        bnd a1.length x0 fun n7 =>
        Option.bind a1[n7]? fun y8 =>
        Option.bind (g_sl05Less (y6, y8)) fun r9 =>
        some !r9.1
       else some false : Option (Bool)) fun x10 =>
      bif x10 then
       some (Sum.inr false)
      else some (Sum.inl ()) : Option ((Unit) ⊕ (Bool))) fun y => match y with
     | .inl x11 =>
      self1 (IntKind.wrap .i64 (x0 + (1 : Int)))
     | .inr x11 =>
      some (Sum.inr x11)
    else some (Sum.inl ())) (0 : Int) : Option ((Unit) ⊕ (Bool))) fun y => match y with
  | .inl x12 =>
   some (decide ((a1.length : Int) ≤ (66 : Int)), ())
  | .inr x12 =>
   some (x12, ()) := by kernel_rfl
/- spec.GraphOk -/
def c_sGraphOk : TC :=
 (.seq (.rg [o1 1 (.a (.t 0)),
   o1 2 (.lit [.b] [.bool false])])
 (.seq (.join [⟨2, [.b], false⟩] 8188 none (.rg [o1 3 (.idx .nil),
   o1 4 (.load 1 [] 0 (.t 3) 1 false),
   o3 5 163 [.t 4, .c [.i .i64] [.int .i64 (1)], .c [.i .i64] [.int .i64 (12)]],
   o1 6 (.copy 5),
   o2 7 (.idx .nil) 3 true,
   o2 8 (.load 1 [] 0 (.t 7) 1 false) 3 true,
   o2 9 (.idx .nil) 3 true,
   o2 10 (.load 1 [] 1 (.t 9) 1 false) 3 true,
   ⟨false, [], [], .call 1 228 [.t 8, .t 10] .no, [11], (some 11), some (3, true)⟩,
   ⟨false, [], [], .pick 6 (.t 11) (.c (.bool false)), [12], (some 12), none⟩,
   o1 2 (.copy 12)]))
 .ret))
def s_sGraphOk : Sig := ⟨[.rd true [.d, .sl (.own none) [.d, .d]]], (.one false [.d])⟩
noncomputable def E_sGraphOk : TEnv := envOf [(163, p_sl01In), (228, p_sl05Edges)]
noncomputable def f_sGraphOk (n : Nat) : (Int × List (Int × Int)) → Option ((Bool) × Unit) := runFn n E_sGraphOk c_sGraphOk [[.i .i64, .sl [.i .i64, .i .i64]]] [.b] [] [2] .no
noncomputable def g_sGraphOk := f_sGraphOk BIG
noncomputable def p_sGraphOk : TSp := ⟨s_sGraphOk, [[.i .i64, .sl [.i .i64, .i .i64]]], [.b], [], Ou.j .no, g_sGraphOk⟩
theorem k_sGraphOk : chkW PG E_sGraphOk 97 s_sGraphOk (c_sGraphOk.ht 13) .no = some (c_sGraphOk.wc E_sGraphOk, [2]) := by kernel_rfl
theorem ok_sGraphOk : p_sGraphOk.Ok PG 97 := mkOk (env_cons ok_sl01In (env_cons ok_sl05Edges (env_nil PG))) k_sGraphOk (by kernel_rfl)
theorem e_sGraphOk (n : Nat) (a0 : Int × List (Int × Int)) : f_sGraphOk n a0 =
  Option.bind (Option.bind (g_sl01In (a0.1, (1 : Int), (12 : Int))) fun r0 =>
   bif r0.1 then
    Option.bind (g_sl05Edges (a0.1, a0.2)) fun r1 =>
    some r1.1
   else some false : Option (Bool)) fun x2 =>
  some (x2, ()) := by kernel_rfl
/- spec.l05Labels -/
def c_sl05Labels : TC :=
 (.seq (.rg [o1 4 (.lit [.sl [.i .i64]] [.slice none 0 0])])
 (.seq (.rg [o1 11 (.sli [.i .i64] []),
   ⟨false, [], [], .det 2 (.copy 11), [5, 11], (some 5), none⟩])
 (.seq (.join [⟨5, [.sl [.i .i64]], false⟩] 2093152 none (.seq (.rg [o1 6 (.lit [.i .i64] [.int .i64 (0)])])
 (.block 0 (.loop [⟨5, [.sl [.i .i64]], false⟩, ⟨6, [.i .i64], false⟩] 2093152
  (.seq (.seq (.rg [o1 12 (.copy 6),
    o1 13 (.copy 0),
    o1 14 (.data (.bin .lss) [.t 12, .t 13])])
  (.cond (.t 14)
   .skip
   (.exit 0)))
  (.seq (.block 1 (.rg [⟨false, [], [], .det 2 (.copy 5), [17, 5], (some 17), none⟩,
    o1 18 (.copy 6),
    o1 19 (.sli [.i .i64] [.t 18]),
    ⟨false, [], [], .det 2 (.app (some 17) 19), [20, 17], (some 20), none⟩,
    ⟨false, [], [], .det 2 (.copy 20), [5, 20], (some 5), none⟩]))
  (.rg [o1 15 (.copy 6),
    o1 16 (.data (.bin .add) [.t 15, .c (.int .i64 (1))]),
    o1 6 (.copy 16)])))))))
 (.seq (.join [⟨5, [.sl [.i .i64]], false⟩] 1180591620717409208224 none (.seq (.rg [o1 7 (.lit [.i .i64] [.int .i64 (0)])])
 (.block 2 (.loop [⟨5, [.sl [.i .i64]], false⟩, ⟨7, [.i .i64], false⟩] 1180591620717409208224
  (.seq (.seq (.rg [o1 21 (.copy 7),
    o1 22 (.copy 0),
    o1 23 (.data (.bin .lss) [.t 21, .t 22])])
  (.cond (.t 23)
   .skip
   (.exit 2)))
  (.seq (.join [⟨5, [.sl [.i .i64]], false⟩] 1180591620717344196384 none (.block 3 (.seq (.rg [o1 8 (.lit [.i .i64] [.int .i64 (0)])])
  (.block 4 (.loop [⟨5, [.sl [.i .i64]], false⟩, ⟨8, [.i .i64], false⟩] 1180591620717344196384
   (.seq (.seq (.rg [o1 26 (.copy 8),
     o1 27 (.copy 1),
     o1 28 (.len 27),
     o1 29 (.data (.bin .lss) [.t 26, .t 28])])
   (.cond (.t 29)
    .skip
    (.exit 4)))
   (.seq (.join [⟨5, [.sl [.i .i64]], false⟩] 1180591620713116337696 none (.block 5 (.seq (.rg [⟨true, [], [], .det 1 (.copy 5), [32], (some 32), none⟩,
     o1 33 (.copy 1),
     o1 34 (.copy 8),
     o1 35 (.index 33 (.t 34)),
     o1 36 (.idx (.t 35)),
     o1 37 (.load 33 [(0, 2)] 0 (.t 36) 1 false),
     o1 38 (.index 32 (.t 37)),
     o1 39 (.load 5 [(0, 1)] 0 (.t 38) 1 false),
     o1 9 (.copy 39)])
   (.seq (.rg [⟨true, [], [], .det 1 (.copy 5), [40], (some 40), none⟩,
     o1 41 (.copy 1),
     o1 42 (.copy 8),
     o1 43 (.index 41 (.t 42)),
     o1 44 (.idx (.t 43)),
     o1 45 (.load 41 [(0, 2)] 1 (.t 44) 1 false),
     o1 46 (.index 40 (.t 45)),
     o1 47 (.load 5 [(0, 1)] 0 (.t 46) 1 false),
     o1 10 (.copy 47)])
   (.seq (.join [⟨5, [.sl [.i .i64]], false⟩] 576180381133307936 none (.seq (.rg [o1 48 (.copy 9),
     o1 49 (.copy 10),
     o1 50 (.data (.bin .lss) [.t 48, .t 49])])
   (.cond (.t 50)
    (.rg [⟨true, [], [], .det 1 (.copy 5), [51], (some 51), none⟩,
      o1 52 (.copy 1),
      o1 53 (.copy 8),
      o1 54 (.index 52 (.t 53)),
      o1 55 (.idx (.t 54)),
      o1 56 (.load 52 [(0, 2)] 1 (.t 55) 1 false),
      o1 57 (.copy 9),
      o1 58 (.index 51 (.t 56)),
      o4 1 [5, 32, 40, 51] (.store 5 [(0, 1)] 0 (.t 58) (.t 57))])
    .skip)))
   (.seq (.rg [o1 59 (.copy 10),
     o1 60 (.copy 9),
     o1 61 (.data (.bin .lss) [.t 59, .t 60])])
   (.cond (.t 61)
    (.rg [⟨true, [], [], .det 1 (.copy 5), [62], (some 62), none⟩,
      o1 63 (.copy 1),
      o1 64 (.copy 8),
      o1 65 (.index 63 (.t 64)),
      o1 66 (.idx (.t 65)),
      o1 67 (.load 63 [(0, 2)] 0 (.t 66) 1 false),
      o1 68 (.copy 10),
      o1 69 (.index 62 (.t 67)),
      o4 1 [5, 62] (.store 5 [(0, 1)] 0 (.t 69) (.t 68))])
    .skip)))))))
   (.rg [o1 30 (.copy 8),
     o1 31 (.data (.bin .add) [.t 30, .c (.int .i64 (1))]),
     o1 8 (.copy 31)]))))))))
  (.rg [o1 24 (.copy 7),
    o1 25 (.data (.bin .add) [.t 24, .c (.int .i64 (1))]),
    o1 7 (.copy 25)])))))))
 (.seq (.rg [⟨false, [], [], .det 2 (.copy 5), [70, 5], (some 70), none⟩,
   ⟨false, [], [], .det 2 (.copy 70), [4, 70], (some 4), none⟩])
 .ret)))))
def s_sl05Labels : Sig := ⟨[.rd false [.d], .rd false [.sl (.own none) [.d, .d]]], (.one false [.sl (.own none) [.d]])⟩
noncomputable def E_sl05Labels : TEnv := envOf []
noncomputable def f_sl05Labels (n : Nat) : Int × (List (Int × Int)) → Option ((List (Int)) × Unit) := runFn n E_sl05Labels c_sl05Labels [[.i .i64], [.sl [.i .i64, .i .i64]]] [.sl [.i .i64]] [] [4] .no
noncomputable def g_sl05Labels := f_sl05Labels BIG
noncomputable def p_sl05Labels : TSp := ⟨s_sl05Labels, [[.i .i64], [.sl [.i .i64, .i .i64]]], [.sl [.i .i64]], [], Ou.j .no, g_sl05Labels⟩
theorem k_sl05Labels : chkW PG E_sl05Labels 168 s_sl05Labels (c_sl05Labels.ht 71) .no = some (c_sl05Labels.wc E_sl05Labels, [4]) := by kernel_rfl
theorem ok_sl05Labels : p_sl05Labels.Ok PG 168 := mkOk (env_nil PG) k_sl05Labels (by kernel_rfl)
theorem e_sl05Labels (n : Nat) (a0 : Int) (a1 : List (Int × Int)) : f_sl05Labels n (a0, a1) =
  Option.bind (loopT n (X := (List (Int)) × Int) (B := (List (Int))) (fun self1 x0 =>
    bif decide (x0.2 < a0) then
     bif decide (x0.1.length + [x0.2].length ≤ 4294967296) then
      self1 (x0.1 ++ [x0.2], IntKind.wrap .i64 (x0.2 + (1 : Int)))
     else none
    else some x0.1) ([], (0 : Int)) : Option ((List (Int)))) fun x2 =>
  Option.bind (loopT n (X := (List (Int)) × Int) (B := (List (Int))) (fun self4 x3 =>
    bif decide (x3.2 < a0) then
     Option.bind (loopT n (X := (List (Int)) × Int) (B := (List (Int))) (fun self6 x5 =>
       bif decide (x5.2 < (a1.length : Int)) then
        Option.bind (bnd a1.length x5.2 fun n7 =>
         Option.bind a1[n7]? fun y8 =>
         bnd x5.1.length y8.1 fun n9 =>
         Option.bind x5.1[n9]? fun y10 =>
         bnd a1.length x5.2 fun n11 =>
         Option.bind a1[n11]? fun y12 =>
         bnd x5.1.length y12.2 fun n13 =>
         Option.bind x5.1[n13]? fun y14 =>
         Option.bind (bif decide (y10 < y14) then
           bnd a1.length x5.2 fun n15 =>
           Option.bind a1[n15]? fun y16 =>
           bnd x5.1.length y16.2 fun n17 =>
           Option.bind x5.1[n17]? fun y18 =>
           some (x5.1.set n17 y10)
          else some x5.1 : Option ((List (Int)))) fun x19 =>
         bif decide (y14 < y10) then
          bnd a1.length x5.2 fun n20 =>
          Option.bind a1[n20]? fun y21 =>
          bnd x19.length y21.1 fun n22 =>
          Option.bind x19[n22]? fun y23 =>
          some (x19.set n22 y14)
         else some x19 : Option ((List (Int)))) fun x24 =>
        self6 (x24, IntKind.wrap .i64 (x5.2 + (1 : Int)))
       else some x5.1) (x3.1, (0 : Int)) : Option ((List (Int)))) fun x25 =>
     self4 (x25, IntKind.wrap .i64 (x3.2 + (1 : Int)))
    else some x3.1) (x2, (0 : Int)) : Option ((List (Int)))) fun x26 =>
  some (x26, ()) := by kernel_rfl
/- spec.Labels -/
def c_sLabels : TC :=
 (.seq (.rg [o1 1 (.a (.t 0)),
   o1 2 (.lit [.sl [.i .i64]] [.slice none 0 0])])
 (.seq (.seq (.rg [o1 3 (.load 1 [] 0 .nil 2 false),
   o3 4 97 [.t 3],
   o1 5 (.data .not [.t 4])])
 (.cond (.t 5)
  (.seq (.rg [o1 6 (.sli [.i .i64] []),
    ⟨false, [], [], .det 2 (.copy 6), [2, 6], (some 2), none⟩])
  .ret)
  .skip))
 (.seq (.rg [o1 7 (.idx .nil),
   o1 8 (.load 1 [] 0 (.t 7) 1 false),
   o1 9 (.idx .nil),
   o1 10 (.load 1 [] 1 (.t 9) 1 false),
   o3 11 168 [.t 8, .t 10],
   ⟨false, [], [], .det 2 (.copy 11), [2, 11], (some 2), none⟩])
 .ret)))
def s_sLabels : Sig := ⟨[.rd true [.d, .sl (.own none) [.d, .d]]], (.one false [.sl (.own none) [.d]])⟩
noncomputable def E_sLabels : TEnv := envOf [(97, p_sGraphOk), (168, p_sl05Labels)]
noncomputable def f_sLabels (n : Nat) : (Int × List (Int × Int)) → Option ((List (Int)) × Unit) := runFn n E_sLabels c_sLabels [[.i .i64, .sl [.i .i64, .i .i64]]] [.sl [.i .i64]] [] [2] .no
noncomputable def g_sLabels := f_sLabels BIG
noncomputable def p_sLabels : TSp := ⟨s_sLabels, [[.i .i64, .sl [.i .i64, .i .i64]]], [.sl [.i .i64]], [], Ou.j .no, g_sLabels⟩
theorem k_sLabels : chkW PG E_sLabels 48 s_sLabels (c_sLabels.ht 12) .no = some (c_sLabels.wc E_sLabels, [2]) := by kernel_rfl
theorem ok_sLabels : p_sLabels.Ok PG 48 := mkOk (env_cons ok_sGraphOk (env_cons ok_sl05Labels (env_nil PG))) k_sLabels (by kernel_rfl)
theorem e_sLabels (n : Nat) (a0 : Int × List (Int × Int)) : f_sLabels n a0 =
  Option.bind (g_sGraphOk a0) fun r0 =>
  bif !r0.1 then
   some ([], ())
  else Option.bind (g_sl05Labels (a0.1, a0.2)) fun r1 =>
  some (r1.1, ()) := by kernel_rfl
/- spec.Together -/
def c_sTogether : TC :=
 (.seq (.rg [o1 3 (.a (.t 0)),
   o1 6 (.lit [.b] [.bool false])])
 (.seq (.rg [o1 8 (.load 3 [] 0 .nil 2 false),
   o3 9 48 [.t 8],
   ⟨false, [], [], .det 2 (.copy 9), [7, 9], (some 7), none⟩])
 (.seq (.join [⟨6, [.b], false⟩] 8589933632 none (.rg [o1 10 (.copy 1),
   ⟨true, [], [], .det 1 (.copy 7), [11], (some 11), none⟩,
   o1 12 (.len 11),
   o1 13 (.data (.bin .sub) [.t 12, .c (.int .i64 (1))]),
   o3 14 163 [.t 10, .c [.i .i64] [.int .i64 (0)], .t 13],
   o1 15 (.copy 14),
   o2 16 (.copy 2) 5 true,
   ⟨true, [], [], .det 1 (.copy 7), [17], (some 17), some (5, true)⟩,
   o2 18 (.len 17) 5 true,
   o2 19 (.data (.bin .sub) [.t 18, .c (.int .i64 (1))]) 5 true,
   ⟨false, [], [], .call 1 163 [.t 16, .c [.i .i64] [.int .i64 (0)], .t 19] .no, [20], (some 20), some (5, true)⟩,
   ⟨false, [], [], .pick 15 (.t 20) (.c (.bool false)), [21], (some 21), none⟩,
   o1 22 (.copy 21),
   ⟨true, [], [], .det 1 (.copy 7), [23], (some 23), some (12, true)⟩,
   o2 24 (.copy 1) 12 true,
   o2 25 (.index 23 (.t 24)) 12 true,
   o2 26 (.load 7 [(0, 1)] 0 (.t 25) 1 false) 12 true,
   ⟨true, [], [], .det 1 (.copy 7), [27], (some 27), some (12, true)⟩,
   o2 28 (.copy 2) 12 true,
   o2 29 (.index 27 (.t 28)) 12 true,
   o2 30 (.load 7 [(0, 1)] 0 (.t 29) 1 false) 12 true,
   o2 31 (.data (.bin .eql) [.t 26, .t 30]) 12 true,
   ⟨false, [], [], .pick 22 (.t 31) (.c (.bool false)), [32], (some 32), none⟩,
   o1 6 (.copy 32)]))
 .ret)))
def s_sTogether : Sig := ⟨[.rd true [.d, .sl (.own none) [.d, .d]], .rd false [.d], .rd false [.d]], (.one false [.d])⟩
noncomputable def E_sTogether : TEnv := envOf [(48, p_sLabels), (163, p_sl01In)]
noncomputable def f_sTogether (n : Nat) : (Int × List (Int × Int)) × Int × Int → Option ((Bool) × Unit) := runFn n E_sTogether c_sTogether [[.i .i64, .sl [.i .i64, .i .i64]], [.i .i64], [.i .i64]] [.b] [] [6] .no
noncomputable def g_sTogether := f_sTogether BIG
noncomputable def p_sTogether : TSp := ⟨s_sTogether, [[.i .i64, .sl [.i .i64, .i .i64]], [.i .i64], [.i .i64]], [.b], [], Ou.j .no, g_sTogether⟩
theorem k_sTogether : chkW PG E_sTogether 141 s_sTogether (c_sTogether.ht 33) .no = some (c_sTogether.wc E_sTogether, [6]) := by kernel_rfl
theorem ok_sTogether : p_sTogether.Ok PG 141 := mkOk (env_cons ok_sLabels (env_cons ok_sl01In (env_nil PG))) k_sTogether (by kernel_rfl)
theorem e_sTogether (n : Nat) (a0 : Int × List (Int × Int)) (a1 : Int) (a2 : Int) : f_sTogether n (a0, a1, a2) =
  Option.bind (g_sLabels a0) fun r0 =>
  Option.bind (Option.bind (g_sl01In (a1, (0 : Int), IntKind.wrap .i64 ((r0.1.length : Int) - (1 : Int)))) fun r1 =>
   bif r1.1 then
    Option.bind (g_sl01In (a2, (0 : Int), IntKind.wrap .i64 ((r0.1.length : Int) - (1 : Int)))) fun r2 =>
    bif r2.1 then
     bnd r0.1.length a1 fun n3 =>
     Option.bind r0.1[n3]? fun y4 =>
     bnd r0.1.length a2 fun n5 =>
     Option.bind r0.1[n5]? fun y6 =>
     some (decide (y4 = y6))
    else some false
   else some false : Option (Bool)) fun x7 =>
  some (x7, ()) := by kernel_rfl
/- spec.l12Edge -/
def c_sl12Edge : TC :=
 (.seq (.rg [o1 1 (.a (.t 0)),
   ⟨false, [], [], .det 2 (.a (.c [.i .i64, .i .i64] [.int .i64 (0), .int .i64 (0)])), [2, 1000000001], (some 2), none⟩])
 (.seq (.seq (.rg [o1 3 (.idx .nil),
   o1 4 (.load 1 [] 2 (.t 3) 1 false),
   o1 5 (.idx .nil),
   o1 6 (.load 1 [] 3 (.t 5) 1 false),
   o1 7 (.data (.bin .lss) [.t 4, .t 6])])
 (.cond (.t 7)
  (.seq (.rg [o1 8 (.idx .nil),
    o1 9 (.load 1 [] 2 (.t 8) 1 false),
    o1 10 (.idx .nil),
    o1 11 (.load 1 [] 3 (.t 10) 1 false),
    o1 12 (.build [.i .i64, .i .i64] [(0, .t 9), (1, .t 11)]),
    o4 1 [2] (.store 2 [] 0 .nil (.t 12))])
  .ret)
  .skip))
 (.seq (.rg [o1 13 (.idx .nil),
   o1 14 (.load 1 [] 3 (.t 13) 1 false),
   o1 15 (.idx .nil),
   o1 16 (.load 1 [] 2 (.t 15) 1 false),
   o1 17 (.build [.i .i64, .i .i64] [(0, .t 14), (1, .t 16)]),
   o4 1 [2] (.store 2 [] 0 .nil (.t 17))])
 .ret)))
def s_sl12Edge : Sig := ⟨[.rd true [.d, .d, .d, .d]], (.one true [.d, .d])⟩
noncomputable def E_sl12Edge : TEnv := envOf []
noncomputable def f_sl12Edge (n : Nat) : (Int × Int × Int × Int) → Option ((Int × Int) × Unit) := runFn n E_sl12Edge c_sl12Edge [[.i .i64, .i .i64, .i .i64, .i .i64]] [.i .i64, .i .i64] [] [2] .no
noncomputable def g_sl12Edge := f_sl12Edge BIG
noncomputable def p_sl12Edge : TSp := ⟨s_sl12Edge, [[.i .i64, .i .i64, .i .i64, .i .i64]], [.i .i64, .i .i64], [], Ou.j .no, g_sl12Edge⟩
theorem k_sl12Edge : chkW PG E_sl12Edge 218 s_sl12Edge (c_sl12Edge.ht 18) .no = some (c_sl12Edge.wc E_sl12Edge, [2]) := by kernel_rfl
theorem ok_sl12Edge : p_sl12Edge.Ok PG 218 := mkOk (env_nil PG) k_sl12Edge (by kernel_rfl)
theorem e_sl12Edge (n : Nat) (a0 : Int × Int × Int × Int) : f_sl12Edge n a0 =
  bif decide (a0.2.2.1 < a0.2.2.2) then
   some (a0.2.2, ())
  else some ((a0.2.2.2, a0.2.2.1), ()) := by kernel_rfl
/- spec.l05Has -/
def c_sl05Has : TC :=
 (.seq (.rg [o1 3 (.a (.t 1)),
   o1 4 (.lit [.b] [.bool false])])
 (.seq (.join [] 262128 (some [⟨4, [.b], false⟩]) (.seq (.rg [o1 5 (.lit [.i .i64] [.int .i64 (0)])])
 (.block 0 (.loop [⟨5, [.i .i64], false⟩] 262128
  (.seq (.seq (.rg [o1 6 (.copy 5),
    o1 7 (.copy 0),
    o1 8 (.len 7),
    o1 9 (.data (.bin .lss) [.t 6, .t 8])])
  (.cond (.t 9)
   .skip
   (.exit 0)))
  (.seq (.block 1 (.seq (.rg [o1 12 (.copy 0),
    o1 13 (.copy 5),
    o1 14 (.index 12 (.t 13)),
    o1 15 (.load 12 [(0, 2)] 0 (.t 14) 2 false),
    o1 16 (.load 3 [] 0 .nil 2 false),
    o1 17 (.eqA [.i, .i] (.t 15) (.t 16) false)])
  (.cond (.t 17)
   (.seq (.rg [o1 4 (.lit [.b] [.bool true])])
   .ret)
   .skip)))
  (.rg [o1 10 (.copy 5),
    o1 11 (.data (.bin .add) [.t 10, .c (.int .i64 (1))]),
    o1 5 (.copy 11)])))))))
 (.seq (.rg [o1 4 (.lit [.b] [.bool false])])
 .ret)))
def s_sl05Has : Sig := ⟨[.rd false [.sl (.own none) [.d, .d]], .rd true [.d, .d]], (.one false [.d])⟩
noncomputable def E_sl05Has : TEnv := envOf []
noncomputable def f_sl05Has (n : Nat) : (List (Int × Int)) × (Int × Int) → Option ((Bool) × Unit) := runFn n E_sl05Has c_sl05Has [[.sl [.i .i64, .i .i64]], [.i .i64, .i .i64]] [.b] [] [4] .no
noncomputable def g_sl05Has := f_sl05Has BIG
noncomputable def p_sl05Has : TSp := ⟨s_sl05Has, [[.sl [.i .i64, .i .i64]], [.i .i64, .i .i64]], [.b], [], Ou.j .no, g_sl05Has⟩
theorem k_sl05Has : chkW PG E_sl05Has 267 s_sl05Has (c_sl05Has.ht 18) .no = some (c_sl05Has.wc E_sl05Has, [4]) := by kernel_rfl
theorem ok_sl05Has : p_sl05Has.Ok PG 267 := mkOk (env_nil PG) k_sl05Has (by kernel_rfl)
theorem e_sl05Has (n : Nat) (a0 : List (Int × Int)) (a1 : Int × Int) : f_sl05Has n (a0, a1) =
  Option.bind (loopT n (X := Int) (B := (Unit) ⊕ (Bool)) (fun self1 x0 =>
    bif decide (x0 < (a0.length : Int)) then
     bnd a0.length x0 fun n2 =>
     Option.bind a0[n2]? fun y3 =>
     bif (decide (y3.1 = a1.1) && (decide (y3.2 = a1.2) && true)) then
      some (Sum.inr true)
     else self1 (IntKind.wrap .i64 (x0 + (1 : Int)))
    else some (Sum.inl ())) (0 : Int) : Option ((Unit) ⊕ (Bool))) fun y => match y with
  | .inl x4 =>
   some (false, ())
  | .inr x4 =>
   some (x4, ()) := by kernel_rfl
/- spec.HasEdge -/
def c_sHasEdge : TC :=
 (.seq (.rg [o1 2 (.a (.t 0)),
   o1 3 (.a (.t 1)),
   o1 4 (.lit [.b] [.bool false])])
 (.seq (.rg [o1 5 (.idx .nil),
   o1 6 (.load 2 [] 1 (.t 5) 1 false),
   o1 7 (.load 3 [] 0 .nil 2 false),
   o3 8 267 [.t 6, .t 7],
   o1 4 (.copy 8)])
 .ret))
def s_sHasEdge : Sig := ⟨[.rd true [.d, .sl (.own none) [.d, .d]], .rd true [.d, .d]], (.one false [.d])⟩
noncomputable def E_sHasEdge : TEnv := envOf [(267, p_sl05Has)]
noncomputable def f_sHasEdge (n : Nat) : (Int × List (Int × Int)) × (Int × Int) → Option ((Bool) × Unit) := runFn n E_sHasEdge c_sHasEdge [[.i .i64, .sl [.i .i64, .i .i64]], [.i .i64, .i .i64]] [.b] [] [4] .no
noncomputable def g_sHasEdge := f_sHasEdge BIG
noncomputable def p_sHasEdge : TSp := ⟨s_sHasEdge, [[.i .i64, .sl [.i .i64, .i .i64]], [.i .i64, .i .i64]], [.b], [], Ou.j .no, g_sHasEdge⟩
theorem k_sHasEdge : chkW PG E_sHasEdge 132 s_sHasEdge (c_sHasEdge.ht 9) .no = some (c_sHasEdge.wc E_sHasEdge, [4]) := by kernel_rfl
theorem ok_sHasEdge : p_sHasEdge.Ok PG 132 := mkOk (env_cons ok_sl05Has (env_nil PG)) k_sHasEdge (by kernel_rfl)
theorem e_sHasEdge (n : Nat) (a0 : Int × List (Int × Int)) (a1 : Int × Int) : f_sHasEdge n (a0, a1) =
  Option.bind (g_sl05Has (a0.2, a1)) fun r0 =>
  some (r0.1, ()) := by kernel_rfl
/- spec.l05Put -/
def c_sl05Put : TC :=
 (.seq (.rg [o1 3 (.a (.t 1)),
   o1 4 (.lit [.sl [.i .i64, .i .i64]] [.slice none 0 0])])
 (.seq (.rg [o1 8 (.sli [.i .i64, .i .i64] []),
   ⟨false, [], [], .det 2 (.copy 8), [5, 8], (some 5), none⟩])
 (.seq (.join [⟨5, [.sl [.i .i64, .i .i64]], false⟩] 268435040 none (.seq (.rg [o1 6 (.lit [.i .i64] [.int .i64 (0)])])
 (.block 0 (.loop [⟨5, [.sl [.i .i64, .i .i64]], false⟩, ⟨6, [.i .i64], false⟩] 268435040
  (.seq (.seq (.rg [o1 9 (.copy 6),
    o1 10 (.copy 0),
    o1 11 (.len 10),
    o1 12 (.data (.bin .lss) [.t 9, .t 11])])
  (.cond (.t 12)
   .skip
   (.exit 0)))
  (.seq (.join [⟨5, [.sl [.i .i64, .i .i64]], false⟩] 268402720 none (.block 1 (.seq (.rg [o1 15 (.copy 0),
    o1 16 (.copy 6),
    o1 17 (.index 15 (.t 16)),
    o1 18 (.load 15 [(0, 2)] 0 (.t 17) 2 false),
    o1 19 (.load 3 [] 0 .nil 2 false),
    o3 20 317 [.t 18, .t 19]])
  (.cond (.t 20)
   (.rg [⟨false, [], [], .det 2 (.copy 5), [21, 5], (some 21), none⟩,
     o1 22 (.copy 0),
     o1 23 (.copy 6),
     o1 24 (.index 22 (.t 23)),
     o1 25 (.load 22 [(0, 2)] 0 (.t 24) 2 false),
     o1 26 (.sli [.i .i64, .i .i64] [.t 25]),
     ⟨false, [], [], .det 2 (.app (some 21) 26), [27, 21], (some 27), none⟩,
     ⟨false, [], [], .det 2 (.copy 27), [5, 27], (some 5), none⟩])
   .skip))))
  (.rg [o1 13 (.copy 6),
    o1 14 (.data (.bin .add) [.t 13, .c (.int .i64 (1))]),
    o1 6 (.copy 14)])))))))
 (.seq (.rg [⟨false, [], [], .det 2 (.copy 5), [28, 5], (some 28), none⟩,
   o1 29 (.load 3 [] 0 .nil 2 false),
   o1 30 (.sli [.i .i64, .i .i64] [.t 29]),
   ⟨false, [], [], .det 2 (.app (some 28) 30), [31, 28], (some 31), none⟩,
   ⟨false, [], [], .det 2 (.copy 31), [5, 31], (some 5), none⟩])
 (.seq (.join [⟨5, [.sl [.i .i64, .i .i64]], false⟩] 2251795518718112 none (.seq (.rg [o1 7 (.lit [.i .i64] [.int .i64 (0)])])
 (.block 2 (.loop [⟨5, [.sl [.i .i64, .i .i64]], false⟩, ⟨7, [.i .i64], false⟩] 2251795518718112
  (.seq (.seq (.rg [o1 32 (.copy 7),
    o1 33 (.copy 0),
    o1 34 (.len 33),
    o1 35 (.data (.bin .lss) [.t 32, .t 34])])
  (.cond (.t 35)
   .skip
   (.exit 2)))
  (.seq (.join [⟨5, [.sl [.i .i64, .i .i64]], false⟩] 2251524935778336 none (.block 3 (.seq (.rg [o1 38 (.load 3 [] 0 .nil 2 false),
    o1 39 (.copy 0),
    o1 40 (.copy 7),
    o1 41 (.index 39 (.t 40)),
    o1 42 (.load 39 [(0, 2)] 0 (.t 41) 2 false),
    o3 43 317 [.t 38, .t 42]])
  (.cond (.t 43)
   (.rg [⟨false, [], [], .det 2 (.copy 5), [44, 5], (some 44), none⟩,
     o1 45 (.copy 0),
     o1 46 (.copy 7),
     o1 47 (.index 45 (.t 46)),
     o1 48 (.load 45 [(0, 2)] 0 (.t 47) 2 false),
     o1 49 (.sli [.i .i64, .i .i64] [.t 48]),
     ⟨false, [], [], .det 2 (.app (some 44) 49), [50, 44], (some 50), none⟩,
     ⟨false, [], [], .det 2 (.copy 50), [5, 50], (some 5), none⟩])
   .skip))))
  (.rg [o1 36 (.copy 7),
    o1 37 (.data (.bin .add) [.t 36, .c (.int .i64 (1))]),
    o1 7 (.copy 37)])))))))
 (.seq (.rg [⟨false, [], [], .det 2 (.copy 5), [51, 5], (some 51), none⟩,
   ⟨false, [], [], .det 2 (.copy 51), [4, 51], (some 4), none⟩])
 .ret))))))
def s_sl05Put : Sig := ⟨[.rd false [.sl (.own none) [.d, .d]], .rd true [.d, .d]], (.one false [.sl (.own none) [.d, .d]])⟩
noncomputable def E_sl05Put : TEnv := envOf [(317, p_sl05Less)]
noncomputable def f_sl05Put (n : Nat) : (List (Int × Int)) × (Int × Int) → Option ((List (Int × Int)) × Unit) := runFn n E_sl05Put c_sl05Put [[.sl [.i .i64, .i .i64]], [.i .i64, .i .i64]] [.sl [.i .i64, .i .i64]] [] [4] .no
noncomputable def g_sl05Put := f_sl05Put BIG
noncomputable def p_sl05Put : TSp := ⟨s_sl05Put, [[.sl [.i .i64, .i .i64]], [.i .i64, .i .i64]], [.sl [.i .i64, .i .i64]], [], Ou.j .no, g_sl05Put⟩
theorem k_sl05Put : chkW PG E_sl05Put 274 s_sl05Put (c_sl05Put.ht 52) .no = some (c_sl05Put.wc E_sl05Put, [4]) := by kernel_rfl
theorem ok_sl05Put : p_sl05Put.Ok PG 274 := mkOk (env_cons ok_sl05Less (env_nil PG)) k_sl05Put (by kernel_rfl)
theorem e_sl05Put (n : Nat) (a0 : List (Int × Int)) (a1 : Int × Int) : f_sl05Put n (a0, a1) =
  Option.bind (loopT n (X := (List (Int × Int)) × Int) (B := (List (Int × Int))) (fun self1 x0 =>
    bif decide (x0.2 < (a0.length : Int)) then
     Option.bind (bnd a0.length x0.2 fun n2 =>
      Option.bind a0[n2]? fun y3 =>
      Option.bind (g_sl05Less (y3, a1)) fun r4 =>
      bif r4.1 then
       bnd a0.length x0.2 fun n5 =>
       Option.bind a0[n5]? fun y6 =>
       bif decide (x0.1.length + [y6].length ≤ 4294967296) then
        some (x0.1 ++ [y6])
       else none
      else some x0.1 : Option ((List (Int × Int)))) fun x7 =>
     self1 (x7, IntKind.wrap .i64 (x0.2 + (1 : Int)))
    else some x0.1) ([], (0 : Int)) : Option ((List (Int × Int)))) fun x8 =>
  bif decide (x8.length + [a1].length ≤ 4294967296) then
   Option.bind (loopT n (X := (List (Int × Int)) × Int) (B := (List (Int × Int))) (fun self10 x9 =>
     bif decide (x9.2 < (a0.length : Int)) then
      Option.bind (bnd a0.length x9.2 fun n11 =>
       Option.bind a0[n11]? fun y12 =>
       Option.bind (g_sl05Less (a1, y12)) fun r13 =>
       bif r13.1 then
        bnd a0.length x9.2 fun n14 =>
        Option.bind a0[n14]? fun y15 =>
        bif decide (x9.1.length + [y15].length ≤ 4294967296) then
         some (x9.1 ++ [y15])
        else none
       else some x9.1 : Option ((List (Int × Int)))) fun x16 =>
      self10 (x16, IntKind.wrap .i64 (x9.2 + (1 : Int)))
     else some x9.1) (x8 ++ [a1], (0 : Int)) : Option ((List (Int × Int)))) fun x17 =>
   some (x17, ())
  else none := by kernel_rfl
/- spec.AddEdge -/
def c_sAddEdge : TC :=
 (.seq (.rg [o1 2 (.a (.t 0)),
   o1 3 (.a (.t 1)),
   ⟨false, [], [], .det 2 (.a (.c [.i .i64, .sl [.i .i64, .i .i64]] [.int .i64 (0), .slice none 0 0])), [4, 1000000001], (some 4), none⟩,
   o1 5 (.lit [.b] [.bool false])])
 (.seq (.seq (.join [⟨20, [.b], false⟩] 2097088 none (.rg [o1 6 (.load 2 [] 0 .nil 2 false),
   o3 7 97 [.t 6],
   o1 8 (.data .not [.t 7]),
   o1 9 (.copy 8),
   o2 10 (.idx .nil) 3 false,
   o2 11 (.load 2 [] 0 (.t 10) 1 false) 3 false,
   o2 12 (.load 3 [] 0 .nil 2 false) 3 false,
   ⟨false, [], [], .call 1 167 [.t 11, .t 12] .no, [13], (some 13), some (3, false)⟩,
   o2 14 (.data .not [.t 13]) 3 false,
   ⟨false, [], [], .pick 9 (.c (.bool true)) (.t 14), [15], (some 15), none⟩,
   o1 16 (.copy 15),
   o2 17 (.load 2 [] 0 .nil 2 false) 10 false,
   o2 18 (.load 3 [] 0 .nil 2 false) 10 false,
   ⟨false, [], [], .call 1 132 [.t 17, .t 18] .no, [19], (some 19), some (10, false)⟩,
   ⟨false, [], [], .pick 16 (.c (.bool true)) (.t 19), [20], (some 20), none⟩]))
 (.cond (.t 20)
  (.seq (.rg [o1 21 (.build [.i .i64, .sl [.i .i64, .i .i64]] []),
    o4 2 [4, 21] (.store 4 [] 0 .nil (.t 21)),
    o1 5 (.lit [.b] [.bool false])])
  .ret)
  .skip))
 (.seq (.rg [o1 22 (.idx .nil),
   o1 23 (.load 2 [] 0 (.t 22) 1 false),
   o1 24 (.idx .nil),
   o1 25 (.load 2 [] 1 (.t 24) 1 false),
   o1 26 (.load 3 [] 0 .nil 2 false),
   o3 27 274 [.t 25, .t 26],
   ⟨false, [], [], .det 2 (.build [.i .i64, .sl [.i .i64, .i .i64]] [(0, .t 23), (1, .t 27)]), [28, 27], (some 28), none⟩,
   o4 2 [4, 28] (.store 4 [] 0 .nil (.t 28)),
   o1 5 (.lit [.b] [.bool true])])
 .ret)))
def s_sAddEdge : Sig := ⟨[.rd true [.d, .sl (.own none) [.d, .d]], .rd true [.d, .d]], (.tup [(true, 2), (false, 1)] [.d, .sl (.own none) [.d, .d], .d])⟩
noncomputable def E_sAddEdge : TEnv := envOf [(97, p_sGraphOk), (167, p_sEdgeOk), (132, p_sHasEdge), (274, p_sl05Put)]
noncomputable def f_sAddEdge (n : Nat) : (Int × List (Int × Int)) × (Int × Int) → Option ((Int × List (Int × Int) × Bool) × Unit) := runFn n E_sAddEdge c_sAddEdge [[.i .i64, .sl [.i .i64, .i .i64]], [.i .i64, .i .i64]] [.i .i64, .sl [.i .i64, .i .i64], .b] [] [4, 5] .no
noncomputable def g_sAddEdge := f_sAddEdge BIG
noncomputable def p_sAddEdge : TSp := ⟨s_sAddEdge, [[.i .i64, .sl [.i .i64, .i .i64]], [.i .i64, .i .i64]], [.i .i64, .sl [.i .i64, .i .i64], .b], [], Ou.j .no, g_sAddEdge⟩
theorem k_sAddEdge : chkW PG E_sAddEdge 136 s_sAddEdge (c_sAddEdge.ht 29) .no = some (c_sAddEdge.wc E_sAddEdge, [4, 5]) := by kernel_rfl
theorem ok_sAddEdge : p_sAddEdge.Ok PG 136 := mkOk (env_cons ok_sGraphOk (env_cons ok_sEdgeOk (env_cons ok_sHasEdge (env_cons ok_sl05Put (env_nil PG))))) k_sAddEdge (by kernel_rfl)
theorem e_sAddEdge (n : Nat) (a0 : Int × List (Int × Int)) (a1 : Int × Int) : f_sAddEdge n (a0, a1) =
  Option.bind (Option.bind (g_sGraphOk a0) fun r0 =>
   bif !r0.1 then
    some true
   else Option.bind (g_sEdgeOk (a0.1, a1)) fun r1 =>
   bif !r1.1 then
    some true
   else Option.bind (g_sHasEdge (a0, a1)) fun r2 =>
   some r2.1 : Option (Bool)) fun x3 =>
  bif x3 then
   some (((0 : Int), [], false), ())
  else Option.bind (g_sl05Put (a0.2, a1)) fun r4 =>
  some ((a0.1, r4.1, true), ()) := by kernel_rfl
/- spec.l05Without -/
def c_sl05Without : TC :=
 (.seq (.rg [o1 3 (.a (.t 1)),
   o1 4 (.lit [.sl [.i .i64, .i .i64]] [.slice none 0 0])])
 (.seq (.rg [o1 7 (.sli [.i .i64, .i .i64] []),
   ⟨false, [], [], .det 2 (.copy 7), [5, 7], (some 5), none⟩])
 (.seq (.join [⟨5, [.sl [.i .i64, .i .i64]], false⟩] 134217568 none (.seq (.rg [o1 6 (.lit [.i .i64] [.int .i64 (0)])])
 (.block 0 (.loop [⟨5, [.sl [.i .i64, .i .i64]], false⟩, ⟨6, [.i .i64], false⟩] 134217568
  (.seq (.seq (.rg [o1 8 (.copy 6),
    o1 9 (.copy 0),
    o1 10 (.len 9),
    o1 11 (.data (.bin .lss) [.t 8, .t 10])])
  (.cond (.t 11)
   .skip
   (.exit 0)))
  (.seq (.join [⟨5, [.sl [.i .i64, .i .i64]], false⟩] 134201376 none (.block 1 (.seq (.rg [o1 14 (.copy 0),
    o1 15 (.copy 6),
    o1 16 (.index 14 (.t 15)),
    o1 17 (.load 14 [(0, 2)] 0 (.t 16) 2 false),
    o1 18 (.load 3 [] 0 .nil 2 false),
    o1 19 (.eqA [.i, .i] (.t 17) (.t 18) true)])
  (.cond (.t 19)
   (.rg [⟨false, [], [], .det 2 (.copy 5), [20, 5], (some 20), none⟩,
     o1 21 (.copy 0),
     o1 22 (.copy 6),
     o1 23 (.index 21 (.t 22)),
     o1 24 (.load 21 [(0, 2)] 0 (.t 23) 2 false),
     o1 25 (.sli [.i .i64, .i .i64] [.t 24]),
     ⟨false, [], [], .det 2 (.app (some 20) 25), [26, 20], (some 26), none⟩,
     ⟨false, [], [], .det 2 (.copy 26), [5, 26], (some 5), none⟩])
   .skip))))
  (.rg [o1 12 (.copy 6),
    o1 13 (.data (.bin .add) [.t 12, .c (.int .i64 (1))]),
    o1 6 (.copy 13)])))))))
 (.seq (.rg [⟨false, [], [], .det 2 (.copy 5), [27, 5], (some 27), none⟩,
   ⟨false, [], [], .det 2 (.copy 27), [4, 27], (some 4), none⟩])
 .ret))))
def s_sl05Without : Sig := ⟨[.rd false [.sl (.own none) [.d, .d]], .rd true [.d, .d]], (.one false [.sl (.own none) [.d, .d]])⟩
noncomputable def E_sl05Without : TEnv := envOf []
noncomputable def f_sl05Without (n : Nat) : (List (Int × Int)) × (Int × Int) → Option ((List (Int × Int)) × Unit) := runFn n E_sl05Without c_sl05Without [[.sl [.i .i64, .i .i64]], [.i .i64, .i .i64]] [.sl [.i .i64, .i .i64]] [] [4] .no
noncomputable def g_sl05Without := f_sl05Without BIG
noncomputable def p_sl05Without : TSp := ⟨s_sl05Without, [[.sl [.i .i64, .i .i64]], [.i .i64, .i .i64]], [.sl [.i .i64, .i .i64]], [], Ou.j .no, g_sl05Without⟩
theorem k_sl05Without : chkW PG E_sl05Without 270 s_sl05Without (c_sl05Without.ht 28) .no = some (c_sl05Without.wc E_sl05Without, [4]) := by kernel_rfl
theorem ok_sl05Without : p_sl05Without.Ok PG 270 := mkOk (env_nil PG) k_sl05Without (by kernel_rfl)
theorem e_sl05Without (n : Nat) (a0 : List (Int × Int)) (a1 : Int × Int) : f_sl05Without n (a0, a1) =
  Option.bind (loopT n (X := (List (Int × Int)) × Int) (B := (List (Int × Int))) (fun self1 x0 =>
    bif decide (x0.2 < (a0.length : Int)) then
     Option.bind (bnd a0.length x0.2 fun n2 =>
      Option.bind a0[n2]? fun y3 =>
      bif !(decide (y3.1 = a1.1) && (decide (y3.2 = a1.2) && true)) then
       bnd a0.length x0.2 fun n4 =>
       Option.bind a0[n4]? fun y5 =>
       bif decide (x0.1.length + [y5].length ≤ 4294967296) then
        some (x0.1 ++ [y5])
       else none
      else some x0.1 : Option ((List (Int × Int)))) fun x6 =>
     self1 (x6, IntKind.wrap .i64 (x0.2 + (1 : Int)))
    else some x0.1) ([], (0 : Int)) : Option ((List (Int × Int)))) fun x7 =>
  some (x7, ()) := by kernel_rfl
/- spec.TakeEdge -/
def c_sTakeEdge : TC :=
 (.seq (.rg [o1 2 (.a (.t 0)),
   o1 3 (.a (.t 1)),
   ⟨false, [], [], .det 2 (.a (.c [.i .i64, .sl [.i .i64, .i .i64]] [.int .i64 (0), .slice none 0 0])), [4, 1000000001], (some 4), none⟩,
   o1 5 (.lit [.b] [.bool false])])
 (.seq (.seq (.join [⟨14, [.b], false⟩] 32704 none (.rg [o1 6 (.load 2 [] 0 .nil 2 false),
   o3 7 97 [.t 6],
   o1 8 (.data .not [.t 7]),
   o1 9 (.copy 8),
   o2 10 (.load 2 [] 0 .nil 2 false) 3 false,
   o2 11 (.load 3 [] 0 .nil 2 false) 3 false,
   ⟨false, [], [], .call 1 132 [.t 10, .t 11] .no, [12], (some 12), some (3, false)⟩,
   o2 13 (.data .not [.t 12]) 3 false,
   ⟨false, [], [], .pick 9 (.c (.bool true)) (.t 13), [14], (some 14), none⟩]))
 (.cond (.t 14)
  (.seq (.rg [o1 15 (.build [.i .i64, .sl [.i .i64, .i .i64]] []),
    o4 2 [4, 15] (.store 4 [] 0 .nil (.t 15)),
    o1 5 (.lit [.b] [.bool false])])
  .ret)
  .skip))
 (.seq (.rg [o1 16 (.idx .nil),
   o1 17 (.load 2 [] 0 (.t 16) 1 false),
   o1 18 (.idx .nil),
   o1 19 (.load 2 [] 1 (.t 18) 1 false),
   o1 20 (.load 3 [] 0 .nil 2 false),
   o3 21 270 [.t 19, .t 20],
   ⟨false, [], [], .det 2 (.build [.i .i64, .sl [.i .i64, .i .i64]] [(0, .t 17), (1, .t 21)]), [22, 21], (some 22), none⟩,
   o4 2 [4, 22] (.store 4 [] 0 .nil (.t 22)),
   o1 5 (.lit [.b] [.bool true])])
 .ret)))
def s_sTakeEdge : Sig := ⟨[.rd true [.d, .sl (.own none) [.d, .d]], .rd true [.d, .d]], (.tup [(true, 2), (false, 1)] [.d, .sl (.own none) [.d, .d], .d])⟩
noncomputable def E_sTakeEdge : TEnv := envOf [(97, p_sGraphOk), (132, p_sHasEdge), (270, p_sl05Without)]
noncomputable def f_sTakeEdge (n : Nat) : (Int × List (Int × Int)) × (Int × Int) → Option ((Int × List (Int × Int) × Bool) × Unit) := runFn n E_sTakeEdge c_sTakeEdge [[.i .i64, .sl [.i .i64, .i .i64]], [.i .i64, .i .i64]] [.i .i64, .sl [.i .i64, .i .i64], .b] [] [4, 5] .no
noncomputable def g_sTakeEdge := f_sTakeEdge BIG
noncomputable def p_sTakeEdge : TSp := ⟨s_sTakeEdge, [[.i .i64, .sl [.i .i64, .i .i64]], [.i .i64, .i .i64]], [.i .i64, .sl [.i .i64, .i .i64], .b], [], Ou.j .no, g_sTakeEdge⟩
theorem k_sTakeEdge : chkW PG E_sTakeEdge 134 s_sTakeEdge (c_sTakeEdge.ht 23) .no = some (c_sTakeEdge.wc E_sTakeEdge, [4, 5]) := by kernel_rfl
theorem ok_sTakeEdge : p_sTakeEdge.Ok PG 134 := mkOk (env_cons ok_sGraphOk (env_cons ok_sHasEdge (env_cons ok_sl05Without (env_nil PG)))) k_sTakeEdge (by kernel_rfl)
theorem e_sTakeEdge (n : Nat) (a0 : Int × List (Int × Int)) (a1 : Int × Int) : f_sTakeEdge n (a0, a1) =
  Option.bind (Option.bind (g_sGraphOk a0) fun r0 =>
   bif !r0.1 then
    some true
   else Option.bind (g_sHasEdge (a0, a1)) fun r1 =>
   some !r1.1 : Option (Bool)) fun x2 =>
  bif x2 then
   some (((0 : Int), [], false), ())
  else Option.bind (g_sl05Without (a0.2, a1)) fun r3 =>
  some ((a0.1, r3.1, true), ()) := by kernel_rfl
/- spec.Model -/
def c_sModel : TC :=
 (.seq (.rg [o1 2 (.a (.t 0)),
   o1 3 (.a (.t 1)),
   ⟨false, [], [], .det 2 (.a (.c [.i .i64, .sl [.i .i64, .i .i64]] [.int .i64 (0), .slice none 0 0])), [4, 1000000001], (some 4), none⟩,
   o1 5 (.lit [.i .i64] [.int .i64 (0)])])
 (.seq (.rg [⟨false, [], [1000000001], .det 1 (.idx .nil), [9], (some 9), none⟩,
   ⟨false, [], [1000000001], .det 1 (.load 2 [] 0 (.t 9) 1 false), [10], (some 10), none⟩,
   ⟨false, [], [1000000001], .det 1 (.sli [.i .i64, .i .i64] []), [11], (some 11), none⟩,
   ⟨false, [], [1000000001], .det 1 (.idx .nil), [12], (some 12), none⟩,
   ⟨false, [], [1000000001], .det 1 (.load 2 [] 1 (.t 12) 1 false), [13], (some 13), none⟩,
   ⟨false, [], [1000000001], .det 2 (.app (some 11) 13), [14, 11], (some 14), none⟩,
   ⟨false, [], [1000000001], .det 2 (.build [.i .i64, .sl [.i .i64, .i .i64]] [(0, .t 10), (1, .t 14)]), [15, 14], (some 15), none⟩,
   ⟨false, [], [], .det 2 (.a (.c [.i .i64, .sl [.i .i64, .i .i64]] [.int .i64 (0), .slice none 0 0])), [6, 1000000001], (some 6), none⟩,
   o4 2 [6, 15] (.store 6 [] 0 .nil (.t 15))])
 (.seq (.seq (.join [⟨32, [.b], false⟩] 8589869056 none (.rg [o1 16 (.idx .nil),
   o1 17 (.load 3 [] 1 (.t 16) 1 false),
   o3 18 163 [.t 17, .c [.i .i64] [.int .i64 (1)], .c [.i .i64] [.int .i64 (4)]],
   o1 19 (.data .not [.t 18]),
   o1 20 (.copy 19),
   o2 21 (.idx .nil) 4 false,
   o2 22 (.load 3 [] 2 (.t 21) 1 false) 4 false,
   o2 23 (.data (.bin .geq) [.t 22, .c (.int .i64 (0))]) 4 false,
   o2 24 (.copy 23) 4 false,
   o2 25 (.idx .nil) 8 true,
   o2 26 (.load 3 [] 2 (.t 25) 1 false) 8 true,
   o2 27 (.idx .nil) 8 true,
   o2 28 (.load 2 [] 0 (.t 27) 1 false) 8 true,
   o2 29 (.data (.bin .lss) [.t 26, .t 28]) 8 true,
   ⟨false, [], [], .pick 24 (.t 29) (.c (.bool false)), [30], (some 30), some (4, false)⟩,
   o2 31 (.data .not [.t 30]) 4 false,
   ⟨false, [], [], .pick 20 (.c (.bool true)) (.t 31), [32], (some 32), none⟩]))
 (.cond (.t 32)
  (.seq (.rg [o1 33 (.load 6 [] 0 .nil 2 true),
    ⟨false, [33], [], .det 2 (.store 4 [] 0 .nil (.t 33)), [4, 33, 33, 6], none, none⟩,
    o1 5 (.lit [.i .i64] [.int .i64 (3)])])
  .ret)
  .skip))
 (.seq (.seq (.rg [o1 34 (.idx .nil),
   o1 35 (.load 3 [] 1 (.t 34) 1 false),
   o1 36 (.data (.bin .eql) [.t 35, .c (.int .i64 (4))])])
 (.cond (.t 36)
  (.seq (.seq (.rg [o1 37 (.idx .nil),
    o1 38 (.load 3 [] 3 (.t 37) 1 false),
    o3 39 163 [.t 38, .c [.i .i64] [.int .i64 (1)], .c [.i .i64] [.int .i64 (3)]],
    o1 40 (.data .not [.t 39])])
  (.cond (.t 40)
   (.seq (.rg [o1 41 (.load 6 [] 0 .nil 2 true),
     ⟨false, [41], [], .det 2 (.store 4 [] 0 .nil (.t 41)), [4, 41, 41, 6], none, none⟩,
     o1 5 (.lit [.i .i64] [.int .i64 (3)])])
   .ret)
   .skip))
  (.seq (.rg [o1 42 (.load 6 [] 0 .nil 2 true),
    ⟨false, [42], [], .det 2 (.store 4 [] 0 .nil (.t 42)), [4, 42, 42, 6], none, none⟩,
    o1 5 (.lit [.i .i64] [.int .i64 (1)])])
  .ret))
  .skip))
 (.seq (.seq (.join [⟨65, [.b], false⟩] 73786967498745184256 none (.rg [o1 43 (.idx .nil),
   o1 44 (.load 3 [] 3 (.t 43) 1 false),
   o1 45 (.data (.bin .geq) [.t 44, .c (.int .i64 (0))]),
   o1 46 (.copy 45),
   o2 47 (.idx .nil) 3 true,
   o2 48 (.load 3 [] 3 (.t 47) 1 false) 3 true,
   o2 49 (.idx .nil) 3 true,
   o2 50 (.load 2 [] 0 (.t 49) 1 false) 3 true,
   o2 51 (.data (.bin .lss) [.t 48, .t 50]) 3 true,
   ⟨false, [], [], .pick 46 (.t 51) (.c (.bool false)), [52], (some 52), none⟩,
   o1 53 (.data .not [.t 52]),
   o1 54 (.copy 53),
   o2 55 (.idx .nil) 11 false,
   o2 56 (.load 3 [] 2 (.t 55) 1 false) 11 false,
   o2 57 (.idx .nil) 11 false,
   o2 58 (.load 3 [] 3 (.t 57) 1 false) 11 false,
   o2 59 (.data (.bin .eql) [.t 56, .t 58]) 11 false,
   o2 60 (.copy 59) 11 false,
   o2 61 (.idx .nil) 17 true,
   o2 62 (.load 3 [] 1 (.t 61) 1 false) 17 true,
   o2 63 (.data (.bin .neq) [.t 62, .c (.int .i64 (3))]) 17 true,
   ⟨false, [], [], .pick 60 (.t 63) (.c (.bool false)), [64], (some 64), some (11, false)⟩,
   ⟨false, [], [], .pick 54 (.c (.bool true)) (.t 64), [65], (some 65), none⟩]))
 (.cond (.t 65)
  (.seq (.rg [o1 66 (.load 6 [] 0 .nil 2 true),
    ⟨false, [66], [], .det 2 (.store 4 [] 0 .nil (.t 66)), [4, 66, 66, 6], none, none⟩,
    o1 5 (.lit [.i .i64] [.int .i64 (3)])])
  .ret)
  .skip))
 (.seq (.seq (.rg [o1 67 (.idx .nil),
   o1 68 (.load 3 [] 1 (.t 67) 1 false),
   o1 69 (.data (.bin .eql) [.t 68, .c (.int .i64 (3))])])
 (.cond (.t 69)
  (.seq (.seq (.rg [o1 70 (.load 2 [] 0 .nil 2 false),
    o1 71 (.idx .nil),
    o1 72 (.load 3 [] 2 (.t 71) 1 false),
    o1 73 (.idx .nil),
    o1 74 (.load 3 [] 3 (.t 73) 1 false),
    o3 75 141 [.t 70, .t 72, .t 74]])
  (.cond (.t 75)
   (.seq (.rg [o1 76 (.load 6 [] 0 .nil 2 true),
     ⟨false, [76], [], .det 2 (.store 4 [] 0 .nil (.t 76)), [4, 76, 76, 6], none, none⟩,
     o1 5 (.lit [.i .i64] [.int .i64 (1)])])
   .ret)
   .skip))
  (.seq (.rg [o1 77 (.load 6 [] 0 .nil 2 true),
    ⟨false, [77], [], .det 2 (.store 4 [] 0 .nil (.t 77)), [4, 77, 77, 6], none, none⟩,
    o1 5 (.lit [.i .i64] [.int .i64 (2)])])
  .ret))
  .skip))
 (.seq (.rg [⟨false, [], [1000000001], .det 1 (.load 2 [] 0 .nil 2 false), [79], (some 79), none⟩,
   ⟨false, [], [1000000001], .det 1 (.load 3 [] 0 .nil 4 false), [80], (some 80), none⟩,
   ⟨false, [], [1000000001], .call 1 218 [.t 80] .no, [81], (some 81), none⟩,
   ⟨false, [], [1000000001], .call 1 136 [.t 79, .t 81] .no, [82], (some 82), none⟩,
   ⟨false, [], [1000000001], .det 2 (.copy 82), [78, 82], (some 78), none⟩,
   ⟨false, [], [1000000001], .det 2 (.ext 78 0 2), [83, 78], (some 83), none⟩,
   ⟨false, [], [1000000001], .det 1 (.ext 78 2 1), [84], (some 84), none⟩,
   ⟨false, [], [], .det 2 (.a (.c [.i .i64, .sl [.i .i64, .i .i64]] [.int .i64 (0), .slice none 0 0])), [7, 1000000001], (some 7), none⟩,
   o4 2 [7, 83] (.store 7 [] 0 .nil (.t 83)),
   o1 8 (.copy 84)])
 (.seq (.join [⟨7, [.i .i64, .sl [.i .i64, .i .i64]], false⟩, ⟨8, [.b], false⟩] 39575395630904500663181377920 none (.seq (.rg [o1 85 (.idx .nil),
   o1 86 (.load 3 [] 1 (.t 85) 1 false),
   o1 87 (.data (.bin .eql) [.t 86, .c (.int .i64 (2))])])
 (.cond (.t 87)
  (.rg [o1 89 (.load 2 [] 0 .nil 2 false),
    o1 90 (.load 3 [] 0 .nil 4 false),
    o3 91 218 [.t 90],
    o3 92 134 [.t 89, .t 91],
    ⟨false, [], [], .det 2 (.copy 92), [88, 92], (some 88), none⟩,
    ⟨false, [], [], .det 2 (.ext 88 0 2), [93, 88], (some 93), none⟩,
    o1 94 (.ext 88 2 1),
    o4 2 [7, 93] (.store 7 [] 0 .nil (.t 93)),
    o1 8 (.copy 94)])
  .skip)))
 (.seq (.seq (.rg [o1 95 (.copy 8),
   o1 96 (.data .not [.t 95])])
 (.cond (.t 96)
  (.seq (.rg [o1 97 (.load 6 [] 0 .nil 2 true),
    ⟨false, [97], [], .det 2 (.store 4 [] 0 .nil (.t 97)), [4, 97, 97, 6], none, none⟩,
    o1 5 (.lit [.i .i64] [.int .i64 (2)])])
  .ret)
  .skip))
 (.seq (.rg [o1 98 (.load 7 [] 0 .nil 2 true),
   ⟨false, [98], [], .det 2 (.store 4 [] 0 .nil (.t 98)), [4, 98, 98, 7], none, none⟩,
   o1 5 (.lit [.i .i64] [.int .i64 (1)])])
 .ret))))))))))
def s_sModel : Sig := ⟨[.rd true [.d, .sl (.own none) [.d, .d]], .rd true [.d, .d, .d, .d]], (.tup [(true, 2), (false, 1)] [.d, .sl (.own none) [.d, .d], .d])⟩
noncomputable def E_sModel : TEnv := envOf [(163, p_sl01In), (141, p_sTogether), (218, p_sl12Edge), (136, p_sAddEdge), (134, p_sTakeEdge)]
noncomputable def f_sModel (n : Nat) : (Int × List (Int × Int)) × (Int × Int × Int × Int) → Option ((Int × List (Int × Int) × Int) × Unit) := runFn n E_sModel c_sModel [[.i .i64, .sl [.i .i64, .i .i64]], [.i .i64, .i .i64, .i .i64, .i .i64]] [.i .i64, .sl [.i .i64, .i .i64], .i .i64] [] [4, 5] .no
noncomputable def g_sModel := f_sModel BIG
noncomputable def p_sModel : TSp := ⟨s_sModel, [[.i .i64, .sl [.i .i64, .i .i64]], [.i .i64, .i .i64, .i .i64, .i .i64]], [.i .i64, .sl [.i .i64, .i .i64], .i .i64], [], Ou.j .no, g_sModel⟩
theorem k_sModel : chkW PG E_sModel 89 s_sModel (c_sModel.ht 99) .no = some (c_sModel.wc E_sModel, [4, 5]) := by kernel_rfl
theorem ok_sModel : p_sModel.Ok PG 89 := mkOk (env_cons ok_sl01In (env_cons ok_sTogether (env_cons ok_sl12Edge (env_cons ok_sAddEdge (env_cons ok_sTakeEdge (env_nil PG)))))) k_sModel (by kernel_rfl)
theorem e_sModel (n : Nat) (a0 : Int × List (Int × Int)) (a1 : Int × Int × Int × Int) : f_sModel n (a0, a1) =
  bif decide (0 + a0.2.length ≤ 4294967296) then
   Option.bind (Option.bind (g_sl01In (a1.2.1, (1 : Int), (4 : Int))) fun r0 =>
    bif !r0.1 then
     some true
    else bif decide ((0 : Int) ≤ a1.2.2.1) then
     some (!(decide (a1.2.2.1 < a0.1)))
    else some true : Option (Bool)) fun x1 =>
   bif x1 then
    some ((a0.1, [] ++ a0.2, (3 : Int)), ())
   else bif decide (a1.2.1 = (4 : Int)) then
    Option.bind (g_sl01In (a1.2.2.2, (1 : Int), (3 : Int))) fun r2 =>
    bif !r2.1 then
     some ((a0.1, [] ++ a0.2, (3 : Int)), ())
    else some ((a0.1, [] ++ a0.2, (1 : Int)), ())
   else Option.bind (bif decide ((0 : Int) ≤ a1.2.2.2) then
     bif !(decide (a1.2.2.2 < a0.1)) then
      some true
     else bif decide (a1.2.2.1 = a1.2.2.2) then
      some (!decide (a1.2.1 = (3 : Int)))
     else some false
    else some true : Option (Bool)) fun x3 =>
   bif x3 then
    some ((a0.1, [] ++ a0.2, (3 : Int)), ())
   else bif decide (a1.2.1 = (3 : Int)) then
    Option.bind (g_sTogether (a0, a1.2.2.1, a1.2.2.2)) fun r4 =>
    bif r4.1 then
     some ((a0.1, [] ++ a0.2, (1 : Int)), ())
    else some ((a0.1, [] ++ a0.2, (2 : Int)), ())
   else Option.bind (g_sl12Edge a1) fun r5 =>
   Option.bind (g_sAddEdge (a0, r5.1)) fun r6 =>
   Option.bind (bif decide (a1.2.1 = (2 : Int)) then
     Option.bind (g_sl12Edge a1) fun r7 =>
     Option.bind (g_sTakeEdge (a0, r7.1)) fun r8 =>
     some ((r8.1.1, r8.1.2.1), r8.1.2.2)
    else some ((r6.1.1, r6.1.2.1), r6.1.2.2) : Option ((Int × List (Int × Int)) × Bool)) fun x9 =>
   bif !x9.2 then
    some ((a0.1, [] ++ a0.2, (2 : Int)), ())
   else some ((x9.1.1, x9.1.2, (1 : Int)), ())
  else none := by kernel_rfl
/- impl.copyEdges -/
def c_icopyEdges : TC :=
 (.seq (.rg [o1 2 (.lit [.sl [.i .i64, .i .i64]] [.slice none 0 0])])
 (.seq (.rg [o1 3 (.copy 0),
   o1 4 (.app none 3),
   ⟨false, [], [], .det 2 (.copy 4), [2, 4], (some 2), none⟩])
 .ret))
def s_icopyEdges : Sig := ⟨[.rd false [.sl (.own none) [.d, .d]]], (.one false [.sl (.own none) [.d, .d]])⟩
noncomputable def E_icopyEdges : TEnv := envOf []
noncomputable def f_icopyEdges (n : Nat) : (List (Int × Int)) → Option ((List (Int × Int)) × Unit) := runFn n E_icopyEdges c_icopyEdges [[.sl [.i .i64, .i .i64]]] [.sl [.i .i64, .i .i64]] [] [2] .no
noncomputable def g_icopyEdges := f_icopyEdges BIG
noncomputable def p_icopyEdges : TSp := ⟨s_icopyEdges, [[.sl [.i .i64, .i .i64]]], [.sl [.i .i64, .i .i64]], [], Ou.j .no, g_icopyEdges⟩
theorem k_icopyEdges : chkW PG E_icopyEdges 219 s_icopyEdges (c_icopyEdges.ht 5) .no = some (c_icopyEdges.wc E_icopyEdges, [2]) := by kernel_rfl
theorem ok_icopyEdges : p_icopyEdges.Ok PG 219 := mkOk (env_nil PG) k_icopyEdges (by kernel_rfl)
theorem e_icopyEdges (n : Nat) (a0 : List (Int × Int)) : f_icopyEdges n a0 =
  bif decide (a0.length ≤ 4294967296) then
   some (a0, ())
  else none := by kernel_rfl
/- impl.in -/
def c_iin : TC :=
 (.seq (.rg [o1 6 (.lit [.b] [.bool false])])
 (.seq (.join [⟨6, [.b], false⟩] 32704 none (.rg [o1 7 (.copy 0),
   o1 8 (.copy 1),
   o1 9 (.data (.bin .geq) [.t 7, .t 8]),
   o1 10 (.copy 9),
   o2 11 (.copy 0) 3 true,
   o2 12 (.copy 2) 3 true,
   o2 13 (.data (.bin .leq) [.t 11, .t 12]) 3 true,
   ⟨false, [], [], .pick 10 (.t 13) (.c (.bool false)), [14], (some 14), none⟩,
   o1 6 (.copy 14)]))
 .ret))
def s_iin : Sig := ⟨[.rd false [.d], .rd false [.d], .rd false [.d]], (.one false [.d])⟩
noncomputable def E_iin : TEnv := envOf []
noncomputable def f_iin (n : Nat) : Int × Int × Int → Option ((Bool) × Unit) := runFn n E_iin c_iin [[.i .i64], [.i .i64], [.i .i64]] [.b] [] [6] .no
noncomputable def g_iin := f_iin BIG
noncomputable def p_iin : TSp := ⟨s_iin, [[.i .i64], [.i .i64], [.i .i64]], [.b], [], Ou.j .no, g_iin⟩
theorem k_iin : chkW PG E_iin 161 s_iin (c_iin.ht 15) .no = some (c_iin.wc E_iin, [6]) := by kernel_rfl
theorem ok_iin : p_iin.Ok PG 161 := mkOk (env_nil PG) k_iin (by kernel_rfl)
theorem e_iin (n : Nat) (a0 : Int) (a1 : Int) (a2 : Int) : f_iin n (a0, a1, a2) =
  Option.bind (bif decide (a1 ≤ a0) then
    some (decide (a0 ≤ a2))
   else some false : Option (Bool)) fun x0 =>
  some (x0, ()) := by kernel_rfl
/- impl.edgeOf -/
def c_iedgeOf : TC :=
 (.seq (.rg [o1 1 (.a (.t 0)),
   ⟨false, [], [], .det 2 (.a (.c [.i .i64, .i .i64] [.int .i64 (0), .int .i64 (0)])), [2, 1000000001], (some 2), none⟩])
 (.seq (.rg [o1 3 (.idx .nil),
   o1 4 (.load 1 [] 2 (.t 3) 1 false),
   o1 5 (.idx .nil),
   o1 6 (.load 1 [] 3 (.t 5) 1 false),
   o1 7 (.data .min [.t 4, .t 6]),
   o1 8 (.idx .nil),
   o1 9 (.load 1 [] 2 (.t 8) 1 false),
   o1 10 (.idx .nil),
   o1 11 (.load 1 [] 3 (.t 10) 1 false),
   o1 12 (.data .max [.t 9, .t 11]),
   o1 13 (.build [.i .i64, .i .i64] [(0, .t 7), (1, .t 12)]),
   o4 1 [2] (.store 2 [] 0 .nil (.t 13))])
 .ret))
def s_iedgeOf : Sig := ⟨[.rd true [.d, .d, .d, .d]], (.one true [.d, .d])⟩
noncomputable def E_iedgeOf : TEnv := envOf []
noncomputable def f_iedgeOf (n : Nat) : (Int × Int × Int × Int) → Option ((Int × Int) × Unit) := runFn n E_iedgeOf c_iedgeOf [[.i .i64, .i .i64, .i .i64, .i .i64]] [.i .i64, .i .i64] [] [2] .no
noncomputable def g_iedgeOf := f_iedgeOf BIG
noncomputable def p_iedgeOf : TSp := ⟨s_iedgeOf, [[.i .i64, .i .i64, .i .i64, .i .i64]], [.i .i64, .i .i64], [], Ou.j .no, g_iedgeOf⟩
theorem k_iedgeOf : chkW PG E_iedgeOf 221 s_iedgeOf (c_iedgeOf.ht 14) .no = some (c_iedgeOf.wc E_iedgeOf, [2]) := by kernel_rfl
theorem ok_iedgeOf : p_iedgeOf.Ok PG 221 := mkOk (env_nil PG) k_iedgeOf (by kernel_rfl)
theorem e_iedgeOf (n : Nat) (a0 : Int × Int × Int × Int) : f_iedgeOf n a0 =
  some (((if a0.2.2.2 < a0.2.2.1 then a0.2.2.2 else a0.2.2.1), (if a0.2.2.2 > a0.2.2.1 then a0.2.2.2 else a0.2.2.1)), ()) := by kernel_rfl
/- impl.EdgeOk -/
def c_iEdgeOk : TC :=
 (.seq (.rg [o1 3 (.a (.t 1)),
   o1 4 (.lit [.b] [.bool false])])
 (.seq (.join [⟨4, [.b], false⟩] 268435440 none (.rg [o1 5 (.copy 0),
   o3 6 161 [.t 5, .c [.i .i64] [.int .i64 (1)], .c [.i .i64] [.int .i64 (12)]],
   o1 7 (.copy 6),
   o2 8 (.idx .nil) 2 true,
   o2 9 (.load 3 [] 0 (.t 8) 1 false) 2 true,
   o2 10 (.copy 0) 2 true,
   o2 11 (.data (.bin .sub) [.t 10, .c (.int .i64 (1))]) 2 true,
   ⟨false, [], [], .call 1 161 [.t 9, .c [.i .i64] [.int .i64 (0)], .t 11] .no, [12], (some 12), some (2, true)⟩,
   ⟨false, [], [], .pick 7 (.t 12) (.c (.bool false)), [13], (some 13), none⟩,
   o1 14 (.copy 13),
   o2 15 (.idx .nil) 9 true,
   o2 16 (.load 3 [] 1 (.t 15) 1 false) 9 true,
   o2 17 (.copy 0) 9 true,
   o2 18 (.data (.bin .sub) [.t 17, .c (.int .i64 (1))]) 9 true,
   ⟨false, [], [], .call 1 161 [.t 16, .c [.i .i64] [.int .i64 (0)], .t 18] .no, [19], (some 19), some (9, true)⟩,
   ⟨false, [], [], .pick 14 (.t 19) (.c (.bool false)), [20], (some 20), none⟩,
   o1 21 (.copy 20),
   o2 22 (.idx .nil) 16 true,
   o2 23 (.load 3 [] 0 (.t 22) 1 false) 16 true,
   o2 24 (.idx .nil) 16 true,
   o2 25 (.load 3 [] 1 (.t 24) 1 false) 16 true,
   o2 26 (.data (.bin .lss) [.t 23, .t 25]) 16 true,
   ⟨false, [], [], .pick 21 (.t 26) (.c (.bool false)), [27], (some 27), none⟩,
   o1 4 (.copy 27)]))
 .ret))
def s_iEdgeOk : Sig := ⟨[.rd false [.d], .rd true [.d, .d]], (.one false [.d])⟩
noncomputable def E_iEdgeOk : TEnv := envOf [(161, p_iin)]
noncomputable def f_iEdgeOk (n : Nat) : Int × (Int × Int) → Option ((Bool) × Unit) := runFn n E_iEdgeOk c_iEdgeOk [[.i .i64], [.i .i64, .i .i64]] [.b] [] [4] .no
noncomputable def g_iEdgeOk := f_iEdgeOk BIG
noncomputable def p_iEdgeOk : TSp := ⟨s_iEdgeOk, [[.i .i64], [.i .i64, .i .i64]], [.b], [], Ou.j .no, g_iEdgeOk⟩
theorem k_iEdgeOk : chkW PG E_iEdgeOk 173 s_iEdgeOk (c_iEdgeOk.ht 28) .no = some (c_iEdgeOk.wc E_iEdgeOk, [4]) := by kernel_rfl
theorem ok_iEdgeOk : p_iEdgeOk.Ok PG 173 := mkOk (env_cons ok_iin (env_nil PG)) k_iEdgeOk (by kernel_rfl)
theorem e_iEdgeOk (n : Nat) (a0 : Int) (a1 : Int × Int) : f_iEdgeOk n (a0, a1) =
  Option.bind (Option.bind (g_iin (a0, (1 : Int), (12 : Int))) fun r0 =>
   bif r0.1 then
    Option.bind (g_iin (a1.1, (0 : Int), IntKind.wrap .i64 (a0 - (1 : Int)))) fun r1 =>
    bif r1.1 then
     Option.bind (g_iin (a1.2, (0 : Int), IntKind.wrap .i64 (a0 - (1 : Int)))) fun r2 =>
     bif r2.1 then
      some (decide (a1.1 < a1.2))
     else some false
    else some false
   else some false : Option (Bool)) fun x3 =>
  some (x3, ()) := by kernel_rfl
/- impl.ahead -/
def c_iahead : TC :=
 (.seq (.rg [o1 2 (.a (.t 0)),
   o1 3 (.a (.t 1)),
   o1 4 (.lit [.b] [.bool false])])
 (.seq (.join [⟨4, [.b], false⟩] 16777200 none (.rg [o1 5 (.idx .nil),
   o1 6 (.load 2 [] 0 (.t 5) 1 false),
   o1 7 (.idx .nil),
   o1 8 (.load 3 [] 0 (.t 7) 1 false),
   o1 9 (.data (.bin .lss) [.t 6, .t 8]),
   o1 10 (.copy 9),
   o2 11 (.idx .nil) 5 false,
   o2 12 (.load 2 [] 0 (.t 11) 1 false) 5 false,
   o2 13 (.idx .nil) 5 false,
   o2 14 (.load 3 [] 0 (.t 13) 1 false) 5 false,
   o2 15 (.data (.bin .eql) [.t 12, .t 14]) 5 false,
   o2 16 (.copy 15) 5 false,
   o2 17 (.idx .nil) 11 true,
   o2 18 (.load 2 [] 1 (.t 17) 1 false) 11 true,
   o2 19 (.idx .nil) 11 true,
   o2 20 (.load 3 [] 1 (.t 19) 1 false) 11 true,
   o2 21 (.data (.bin .lss) [.t 18, .t 20]) 11 true,
   ⟨false, [], [], .pick 16 (.t 21) (.c (.bool false)), [22], (some 22), some (5, false)⟩,
   ⟨false, [], [], .pick 10 (.c (.bool true)) (.t 22), [23], (some 23), none⟩,
   o1 4 (.copy 23)]))
 .ret))
def s_iahead : Sig := ⟨[.rd true [.d, .d], .rd true [.d, .d]], (.one false [.d])⟩
noncomputable def E_iahead : TEnv := envOf []
noncomputable def f_iahead (n : Nat) : (Int × Int) × (Int × Int) → Option ((Bool) × Unit) := runFn n E_iahead c_iahead [[.i .i64, .i .i64], [.i .i64, .i .i64]] [.b] [] [4] .no
noncomputable def g_iahead := f_iahead BIG
noncomputable def p_iahead : TSp := ⟨s_iahead, [[.i .i64, .i .i64], [.i .i64, .i .i64]], [.b], [], Ou.j .no, g_iahead⟩
theorem k_iahead : chkW PG E_iahead 272 s_iahead (c_iahead.ht 24) .no = some (c_iahead.wc E_iahead, [4]) := by kernel_rfl
theorem ok_iahead : p_iahead.Ok PG 272 := mkOk (env_nil PG) k_iahead (by kernel_rfl)
theorem e_iahead (n : Nat) (a0 : Int × Int) (a1 : Int × Int) : f_iahead n (a0, a1) =
  Option.bind (bif decide (a0.1 < a1.1) then
    some true
   else bif decide (a0.1 = a1.1) then
    some (decide (a0.2 < a1.2))
   else some false : Option (Bool)) fun x0 =>
  some (x0, ()) := by kernel_rfl
/- impl.edgesOk -/
def c_iedgesOk : TC :=
 (.seq (.rg [o1 4 (.lit [.b] [.bool false])])
 (.seq (.join [] 8589934576 (some [⟨4, [.b], false⟩]) (.seq (.rg [o1 7 (.copy 1),
   o1 8 (.len 7),
   o1 9 (.lit [.i .i64] [.int .i64 (0)])])
 (.block 0 (.loop [⟨9, [.i .i64], false⟩] 8589934192
  (.seq (.rg [o1 10 (.data (.bin .lss) [.t 9, .t 8])])
  (.seq (.cond (.t 10)
   .skip
   (.exit 0))
  (.seq (.join [] 4294965360 (some [⟨4, [.b], false⟩]) (.block 1 (.seq (.rg [o1 11 (.copy 9),
    o1 12 (.index 7 (.t 9)),
    o1 13 (.load 7 [(0, 2)] 0 (.t 12) 2 false),
    ⟨false, [], [], .det 2 (.a (.c [.i .i64, .i .i64] [.int .i64 (0), .int .i64 (0)])), [6, 1000000001], (some 6), none⟩,
    o1 5 (.copy 11),
    o4 1 [6] (.store 6 [] 0 .nil (.t 13))])
  (.seq (.join [⟨31, [.b], false⟩] 4294950912 none (.rg [o1 14 (.copy 0),
    o1 15 (.load 6 [] 0 .nil 2 false),
    o3 16 173 [.t 14, .t 15],
    o1 17 (.data .not [.t 16]),
    o1 18 (.copy 17),
    o2 19 (.copy 5) 4 false,
    o2 20 (.data (.bin .gtr) [.t 19, .c (.int .i64 (0))]) 4 false,
    o2 21 (.copy 20) 4 false,
    o2 22 (.copy 1) 7 true,
    o2 23 (.copy 5) 7 true,
    o2 24 (.data (.bin .sub) [.t 23, .c (.int .i64 (1))]) 7 true,
    o2 25 (.index 22 (.t 24)) 7 true,
    o2 26 (.load 22 [(0, 2)] 0 (.t 25) 2 false) 7 true,
    o2 27 (.load 6 [] 0 .nil 2 false) 7 true,
    ⟨false, [], [], .call 1 272 [.t 26, .t 27] .no, [28], (some 28), some (7, true)⟩,
    o2 29 (.data .not [.t 28]) 7 true,
    ⟨false, [], [], .pick 21 (.t 29) (.c (.bool false)), [30], (some 30), some (4, false)⟩,
    ⟨false, [], [], .pick 18 (.c (.bool true)) (.t 30), [31], (some 31), none⟩]))
  (.cond (.t 31)
   (.seq (.rg [o1 4 (.lit [.b] [.bool false])])
   .ret)
   .skip)))))
  (.rg [o1 32 (.data (.bin .add) [.t 9, .c (.int .i64 (1))]),
    o1 9 (.copy 32)]))))))))
 (.seq (.rg [o1 33 (.copy 1),
   o1 34 (.len 33),
   o1 35 (.data (.bin .leq) [.t 34, .c (.int .i64 (66))]),
   o1 4 (.copy 35)])
 .ret)))
def s_iedgesOk : Sig := ⟨[.rd false [.d], .rd false [.sl (.own none) [.d, .d]]], (.one false [.d])⟩
noncomputable def E_iedgesOk : TEnv := envOf [(173, p_iEdgeOk), (272, p_iahead)]
noncomputable def f_iedgesOk (n : Nat) : Int × (List (Int × Int)) → Option ((Bool) × Unit) := runFn n E_iedgesOk c_iedgesOk [[.i .i64], [.sl [.i .i64, .i .i64]]] [.b] [] [4] .no
noncomputable def g_iedgesOk := f_iedgesOk BIG
noncomputable def p_iedgesOk : TSp := ⟨s_iedgesOk, [[.i .i64], [.sl [.i .i64, .i .i64]]], [.b], [], Ou.j .no, g_iedgesOk⟩
theorem k_iedgesOk : chkW PG E_iedgesOk 255 s_iedgesOk (c_iedgesOk.ht 36) .no = some (c_iedgesOk.wc E_iedgesOk, [4]) := by kernel_rfl
theorem ok_iedgesOk : p_iedgesOk.Ok PG 255 := mkOk (env_cons ok_iEdgeOk (env_cons ok_iahead (env_nil PG))) k_iedgesOk (by kernel_rfl)
theorem e_iedgesOk (n : Nat) (a0 : Int) (a1 : List (Int × Int)) : f_iedgesOk n (a0, a1) =
  Option.bind (loopT n (X := Int) (B := (Unit) ⊕ (Bool)) (fun self1 x0 =>
    bif decide (x0 < (a1.length : Int)) then
     Option.bind (bnd a1.length x0 fun n2 =>
      Option.bind a1[n2]? fun y3 =>
      Option.bind (Option.bind (g_iEdgeOk (a0, y3)) fun r4 =>
       bif !r4.1 then
        some true
       else bif decide ((0 : Int) < x0) then
        bnd a1.length (IntKind.wrap .i64 (x0 - (1 : Int))) fun n5 =>
        Option.bind a1[n5]? fun y6 =>
        Option.bind (g_iahead (y6, y3)) fun r7 =>
        some !r7.1
       else some false : Option (Bool)) fun x8 =>
      bif x8 then
       some (Sum.inr false)
      else some (Sum.inl ()) : Option ((Unit) ⊕ (Bool))) fun y => match y with
     | .inl x9 =>
      self1 (IntKind.wrap .i64 (x0 + (1 : Int)))
     | .inr x9 =>
      some (Sum.inr x9)
    else some (Sum.inl ())) (0 : Int) : Option ((Unit) ⊕ (Bool))) fun y => match y with
  | .inl x10 =>
   some (decide ((a1.length : Int) ≤ (66 : Int)), ())
  | .inr x10 =>
   some (x10, ()) := by kernel_rfl
/- impl.GraphOk -/
def c_iGraphOk : TC :=
 (.seq (.rg [o1 1 (.a (.t 0)),
   o1 2 (.lit [.b] [.bool false])])
 (.seq (.join [⟨2, [.b], false⟩] 8188 none (.rg [o1 3 (.idx .nil),
   o1 4 (.load 1 [] 0 (.t 3) 1 false),
   o3 5 161 [.t 4, .c [.i .i64] [.int .i64 (1)], .c [.i .i64] [.int .i64 (12)]],
   o1 6 (.copy 5),
   o2 7 (.idx .nil) 3 true,
   o2 8 (.load 1 [] 0 (.t 7) 1 false) 3 true,
   o2 9 (.idx .nil) 3 true,
   o2 10 (.load 1 [] 1 (.t 9) 1 false) 3 true,
   ⟨false, [], [], .call 1 255 [.t 8, .t 10] .no, [11], (some 11), some (3, true)⟩,
   ⟨false, [], [], .pick 6 (.t 11) (.c (.bool false)), [12], (some 12), none⟩,
   o1 2 (.copy 12)]))
 .ret))
def s_iGraphOk : Sig := ⟨[.rd true [.d, .sl (.own none) [.d, .d]]], (.one false [.d])⟩
noncomputable def E_iGraphOk : TEnv := envOf [(161, p_iin), (255, p_iedgesOk)]
noncomputable def f_iGraphOk (n : Nat) : (Int × List (Int × Int)) → Option ((Bool) × Unit) := runFn n E_iGraphOk c_iGraphOk [[.i .i64, .sl [.i .i64, .i .i64]]] [.b] [] [2] .no
noncomputable def g_iGraphOk := f_iGraphOk BIG
noncomputable def p_iGraphOk : TSp := ⟨s_iGraphOk, [[.i .i64, .sl [.i .i64, .i .i64]]], [.b], [], Ou.j .no, g_iGraphOk⟩
theorem k_iGraphOk : chkW PG E_iGraphOk 275 s_iGraphOk (c_iGraphOk.ht 13) .no = some (c_iGraphOk.wc E_iGraphOk, [2]) := by kernel_rfl
theorem ok_iGraphOk : p_iGraphOk.Ok PG 275 := mkOk (env_cons ok_iin (env_cons ok_iedgesOk (env_nil PG))) k_iGraphOk (by kernel_rfl)
theorem e_iGraphOk (n : Nat) (a0 : Int × List (Int × Int)) : f_iGraphOk n a0 =
  Option.bind (Option.bind (g_iin (a0.1, (1 : Int), (12 : Int))) fun r0 =>
   bif r0.1 then
    Option.bind (g_iedgesOk (a0.1, a0.2)) fun r1 =>
    some r1.1
   else some false : Option (Bool)) fun x2 =>
  some (x2, ()) := by kernel_rfl
/- impl.hasEdge -/
def c_ihasEdge : TC :=
 (.seq (.rg [o1 3 (.a (.t 1)),
   o1 4 (.lit [.b] [.bool false])])
 (.seq (.join [] 131024 (some [⟨4, [.b], false⟩]) (.seq (.rg [o1 7 (.copy 0),
   o1 8 (.len 7),
   o1 9 (.lit [.i .i64] [.int .i64 (0)])])
 (.block 0 (.loop [⟨9, [.i .i64], false⟩] 130640
  (.seq (.rg [o1 10 (.data (.bin .lss) [.t 9, .t 8])])
  (.seq (.cond (.t 10)
   .skip
   (.exit 0))
  (.seq (.block 1 (.seq (.rg [o1 11 (.index 7 (.t 9)),
    o1 12 (.load 7 [(0, 2)] 0 (.t 11) 2 false),
    ⟨false, [], [], .det 2 (.a (.c [.i .i64, .i .i64] [.int .i64 (0), .int .i64 (0)])), [6, 1000000001], (some 6), none⟩,
    o4 1 [6] (.store 6 [] 0 .nil (.t 12))])
  (.seq (.rg [o1 13 (.load 6 [] 0 .nil 2 false),
    o1 14 (.load 3 [] 0 .nil 2 false),
    o1 15 (.eqA [.i, .i] (.t 13) (.t 14) false)])
  (.cond (.t 15)
   (.seq (.rg [o1 4 (.lit [.b] [.bool true])])
   .ret)
   .skip))))
  (.rg [o1 16 (.data (.bin .add) [.t 9, .c (.int .i64 (1))]),
    o1 9 (.copy 16)]))))))))
 (.seq (.rg [o1 4 (.lit [.b] [.bool false])])
 .ret)))
def s_ihasEdge : Sig := ⟨[.rd false [.sl (.own none) [.d, .d]], .rd true [.d, .d]], (.one false [.d])⟩
noncomputable def E_ihasEdge : TEnv := envOf []
noncomputable def f_ihasEdge (n : Nat) : (List (Int × Int)) × (Int × Int) → Option ((Bool) × Unit) := runFn n E_ihasEdge c_ihasEdge [[.sl [.i .i64, .i .i64]], [.i .i64, .i .i64]] [.b] [] [4] .no
noncomputable def g_ihasEdge := f_ihasEdge BIG
noncomputable def p_ihasEdge : TSp := ⟨s_ihasEdge, [[.sl [.i .i64, .i .i64]], [.i .i64, .i .i64]], [.b], [], Ou.j .no, g_ihasEdge⟩
theorem k_ihasEdge : chkW PG E_ihasEdge 179 s_ihasEdge (c_ihasEdge.ht 17) .no = some (c_ihasEdge.wc E_ihasEdge, [4]) := by kernel_rfl
theorem ok_ihasEdge : p_ihasEdge.Ok PG 179 := mkOk (env_nil PG) k_ihasEdge (by kernel_rfl)
theorem e_ihasEdge (n : Nat) (a0 : List (Int × Int)) (a1 : Int × Int) : f_ihasEdge n (a0, a1) =
  Option.bind (loopT n (X := Int) (B := (Unit) ⊕ (Bool)) (fun self1 x0 =>
    bif decide (x0 < (a0.length : Int)) then
     bnd a0.length x0 fun n2 =>
     Option.bind a0[n2]? fun y3 =>
     bif (decide (y3.1 = a1.1) && (decide (y3.2 = a1.2) && true)) then
      some (Sum.inr true)
     else self1 (IntKind.wrap .i64 (x0 + (1 : Int)))
    else some (Sum.inl ())) (0 : Int) : Option ((Unit) ⊕ (Bool))) fun y => match y with
  | .inl x4 =>
   some (false, ())
  | .inr x4 =>
   some (x4, ()) := by kernel_rfl
/- impl.HasEdge -/
def c_iHasEdge : TC :=
 (.seq (.rg [o1 2 (.a (.t 0)),
   o1 3 (.a (.t 1)),
   o1 4 (.lit [.b] [.bool false])])
 (.seq (.rg [o1 5 (.idx .nil),
   o1 6 (.load 2 [] 1 (.t 5) 1 false),
   o1 7 (.load 3 [] 0 .nil 2 false),
   o3 8 179 [.t 6, .t 7],
   o1 4 (.copy 8)])
 .ret))
def s_iHasEdge : Sig := ⟨[.rd true [.d, .sl (.own none) [.d, .d]], .rd true [.d, .d]], (.one false [.d])⟩
noncomputable def E_iHasEdge : TEnv := envOf [(179, p_ihasEdge)]
noncomputable def f_iHasEdge (n : Nat) : (Int × List (Int × Int)) × (Int × Int) → Option ((Bool) × Unit) := runFn n E_iHasEdge c_iHasEdge [[.i .i64, .sl [.i .i64, .i .i64]], [.i .i64, .i .i64]] [.b] [] [4] .no
noncomputable def g_iHasEdge := f_iHasEdge BIG
noncomputable def p_iHasEdge : TSp := ⟨s_iHasEdge, [[.i .i64, .sl [.i .i64, .i .i64]], [.i .i64, .i .i64]], [.b], [], Ou.j .no, g_iHasEdge⟩
theorem k_iHasEdge : chkW PG E_iHasEdge 268 s_iHasEdge (c_iHasEdge.ht 9) .no = some (c_iHasEdge.wc E_iHasEdge, [4]) := by kernel_rfl
theorem ok_iHasEdge : p_iHasEdge.Ok PG 268 := mkOk (env_cons ok_ihasEdge (env_nil PG)) k_iHasEdge (by kernel_rfl)
theorem e_iHasEdge (n : Nat) (a0 : Int × List (Int × Int)) (a1 : Int × Int) : f_iHasEdge n (a0, a1) =
  Option.bind (g_ihasEdge (a0.2, a1)) fun r0 =>
  some (r0.1, ()) := by kernel_rfl
/- impl.withEdge -/
def c_iwithEdge : TC :=
 (.seq (.rg [o1 3 (.a (.t 1)),
   o1 4 (.lit [.sl [.i .i64, .i .i64]] [.slice none 0 0])])
 (.seq (.rg [o1 5 (.lit [.i .i64] [.int .i64 (0)])])
 (.seq (.join [⟨5, [.i .i64], false⟩] 1048544 none (.block 0 (.loop [⟨5, [.i .i64], false⟩] 1048544
  (.seq (.seq (.join [⟨17, [.b], false⟩] 262080 none (.rg [o1 6 (.copy 5),
    o1 7 (.copy 0),
    o1 8 (.len 7),
    o1 9 (.data (.bin .lss) [.t 6, .t 8]),
    o1 10 (.copy 9),
    o2 11 (.copy 0) 4 true,
    o2 12 (.copy 5) 4 true,
    o2 13 (.index 11 (.t 12)) 4 true,
    o2 14 (.load 11 [(0, 2)] 0 (.t 13) 2 false) 4 true,
    o2 15 (.load 3 [] 0 .nil 2 false) 4 true,
    ⟨false, [], [], .call 1 272 [.t 14, .t 15] .no, [16], (some 16), some (4, true)⟩,
    ⟨false, [], [], .pick 10 (.t 16) (.c (.bool false)), [17], (some 17), none⟩]))
  (.cond (.t 17)
   .skip
   (.exit 0)))
  (.block 1 (.rg [o1 18 (.copy 5),
    o1 19 (.data (.bin .add) [.t 18, .c (.int .i64 (1))]),
    o1 5 (.copy 19)]))))))
 (.seq (.rg [o1 20 (.copy 0),
   o1 21 (.copy 5),
   o1 22 (.res 20 none (some (.t 21))),
   o1 23 (.app none 22),
   o1 24 (.load 3 [] 0 .nil 2 false),
   o1 25 (.sli [.i .i64, .i .i64] [.t 24]),
   ⟨false, [], [], .det 2 (.app (some 23) 25), [26, 23], (some 26), none⟩,
   o1 27 (.copy 0),
   o1 28 (.copy 5),
   o1 29 (.res 27 (some (.t 28)) none),
   ⟨false, [], [], .det 2 (.app (some 26) 29), [30, 26], (some 30), none⟩,
   ⟨false, [], [], .det 2 (.copy 30), [4, 30], (some 4), none⟩])
 .ret))))
def s_iwithEdge : Sig := ⟨[.rd false [.sl (.own none) [.d, .d]], .rd true [.d, .d]], (.one false [.sl (.own none) [.d, .d]])⟩
noncomputable def E_iwithEdge : TEnv := envOf [(272, p_iahead)]
noncomputable def f_iwithEdge (n : Nat) : (List (Int × Int)) × (Int × Int) → Option ((List (Int × Int)) × Unit) := runFn n E_iwithEdge c_iwithEdge [[.sl [.i .i64, .i .i64]], [.i .i64, .i .i64]] [.sl [.i .i64, .i .i64]] [] [4] .no
noncomputable def g_iwithEdge := f_iwithEdge BIG
noncomputable def p_iwithEdge : TSp := ⟨s_iwithEdge, [[.sl [.i .i64, .i .i64]], [.i .i64, .i .i64]], [.sl [.i .i64, .i .i64]], [], Ou.j .no, g_iwithEdge⟩
theorem k_iwithEdge : chkW PG E_iwithEdge 180 s_iwithEdge (c_iwithEdge.ht 31) .no = some (c_iwithEdge.wc E_iwithEdge, [4]) := by kernel_rfl
theorem ok_iwithEdge : p_iwithEdge.Ok PG 180 := mkOk (env_cons ok_iahead (env_nil PG)) k_iwithEdge (by kernel_rfl)
theorem e_iwithEdge (n : Nat) (a0 : List (Int × Int)) (a1 : Int × Int) : f_iwithEdge n (a0, a1) =
  Option.bind (loopT n (X := Int) (B := Int) (fun self1 x0 =>
    Option.bind (bif decide (x0 < (a0.length : Int)) then
      bnd a0.length x0 fun n2 =>
      Option.bind a0[n2]? fun y3 =>
      Option.bind (g_iahead (y3, a1)) fun r4 =>
      some r4.1
     else some false : Option (Bool)) fun x5 =>
    bif x5 then
     self1 (IntKind.wrap .i64 (x0 + (1 : Int)))
    else some x0) (0 : Int) : Option (Int)) fun x6 =>
  bif decide (0 ≤ x6) then
   bif decide (0 ≤ (Int.toNat x6) ∧ (Int.toNat x6) ≤ a0.length) then
    bif decide ((List.take ((Int.toNat x6) - 0) (List.drop 0 a0)).length ≤ 4294967296) then
     bif decide ((List.take ((Int.toNat x6) - 0) (List.drop 0 a0)).length + [a1].length ≤ 4294967296) then
      bif decide (0 ≤ x6) then
       bif decide ((Int.toNat x6) ≤ a0.length ∧ a0.length ≤ a0.length) then
        bif decide (((List.take ((Int.toNat x6) - 0) (List.drop 0 a0)) ++ [a1]).length + (List.take (a0.length - (Int.toNat x6)) (List.drop (Int.toNat x6) a0)).length ≤ 4294967296) then
         some (((List.take ((Int.toNat x6) - 0) (List.drop 0 a0)) ++ [a1]) ++ (List.take (a0.length - (Int.toNat x6)) (List.drop (Int.toNat x6) a0)), ())
        else none
       else none
      else none
     else none
    else none
   else none
  else none := by kernel_rfl
/- impl.AddEdge -/
def c_iAddEdge : TC :=
 (.seq (.rg [o1 2 (.a (.t 0)),
   o1 3 (.a (.t 1)),
   ⟨false, [], [], .det 2 (.a (.c [.i .i64, .sl [.i .i64, .i .i64]] [.int .i64 (0), .slice none 0 0])), [4, 1000000001], (some 4), none⟩,
   o1 5 (.lit [.b] [.bool false])])
 (.seq (.seq (.join [⟨20, [.b], false⟩] 2097088 none (.rg [o1 6 (.load 2 [] 0 .nil 2 false),
   o3 7 275 [.t 6],
   o1 8 (.data .not [.t 7]),
   o1 9 (.copy 8),
   o2 10 (.idx .nil) 3 false,
   o2 11 (.load 2 [] 0 (.t 10) 1 false) 3 false,
   o2 12 (.load 3 [] 0 .nil 2 false) 3 false,
   ⟨false, [], [], .call 1 173 [.t 11, .t 12] .no, [13], (some 13), some (3, false)⟩,
   o2 14 (.data .not [.t 13]) 3 false,
   ⟨false, [], [], .pick 9 (.c (.bool true)) (.t 14), [15], (some 15), none⟩,
   o1 16 (.copy 15),
   o2 17 (.load 2 [] 0 .nil 2 false) 10 false,
   o2 18 (.load 3 [] 0 .nil 2 false) 10 false,
   ⟨false, [], [], .call 1 268 [.t 17, .t 18] .no, [19], (some 19), some (10, false)⟩,
   ⟨false, [], [], .pick 16 (.c (.bool true)) (.t 19), [20], (some 20), none⟩]))
 (.cond (.t 20)
  (.seq (.rg [o1 21 (.build [.i .i64, .sl [.i .i64, .i .i64]] []),
    o4 2 [4, 21] (.store 4 [] 0 .nil (.t 21)),
    o1 5 (.lit [.b] [.bool false])])
  .ret)
  .skip))
 (.seq (.rg [o1 22 (.idx .nil),
   o1 23 (.load 2 [] 0 (.t 22) 1 false),
   o1 24 (.idx .nil),
   o1 25 (.load 2 [] 1 (.t 24) 1 false),
   o1 26 (.load 3 [] 0 .nil 2 false),
   o3 27 180 [.t 25, .t 26],
   ⟨false, [], [], .det 2 (.build [.i .i64, .sl [.i .i64, .i .i64]] [(0, .t 23), (1, .t 27)]), [28, 27], (some 28), none⟩,
   o4 2 [4, 28] (.store 4 [] 0 .nil (.t 28)),
   o1 5 (.lit [.b] [.bool true])])
 .ret)))
def s_iAddEdge : Sig := ⟨[.rd true [.d, .sl (.own none) [.d, .d]], .rd true [.d, .d]], (.tup [(true, 2), (false, 1)] [.d, .sl (.own none) [.d, .d], .d])⟩
noncomputable def E_iAddEdge : TEnv := envOf [(275, p_iGraphOk), (173, p_iEdgeOk), (268, p_iHasEdge), (180, p_iwithEdge)]
noncomputable def f_iAddEdge (n : Nat) : (Int × List (Int × Int)) × (Int × Int) → Option ((Int × List (Int × Int) × Bool) × Unit) := runFn n E_iAddEdge c_iAddEdge [[.i .i64, .sl [.i .i64, .i .i64]], [.i .i64, .i .i64]] [.i .i64, .sl [.i .i64, .i .i64], .b] [] [4, 5] .no
noncomputable def g_iAddEdge := f_iAddEdge BIG
noncomputable def p_iAddEdge : TSp := ⟨s_iAddEdge, [[.i .i64, .sl [.i .i64, .i .i64]], [.i .i64, .i .i64]], [.i .i64, .sl [.i .i64, .i .i64], .b], [], Ou.j .no, g_iAddEdge⟩
theorem k_iAddEdge : chkW PG E_iAddEdge 220 s_iAddEdge (c_iAddEdge.ht 29) .no = some (c_iAddEdge.wc E_iAddEdge, [4, 5]) := by kernel_rfl
theorem ok_iAddEdge : p_iAddEdge.Ok PG 220 := mkOk (env_cons ok_iGraphOk (env_cons ok_iEdgeOk (env_cons ok_iHasEdge (env_cons ok_iwithEdge (env_nil PG))))) k_iAddEdge (by kernel_rfl)
theorem e_iAddEdge (n : Nat) (a0 : Int × List (Int × Int)) (a1 : Int × Int) : f_iAddEdge n (a0, a1) =
  Option.bind (Option.bind (g_iGraphOk a0) fun r0 =>
   bif !r0.1 then
    some true
   else Option.bind (g_iEdgeOk (a0.1, a1)) fun r1 =>
   bif !r1.1 then
    some true
   else Option.bind (g_iHasEdge (a0, a1)) fun r2 =>
   some r2.1 : Option (Bool)) fun x3 =>
  bif x3 then
   some (((0 : Int), [], false), ())
  else Option.bind (g_iwithEdge (a0.2, a1)) fun r4 =>
  some ((a0.1, r4.1, true), ()) := by kernel_rfl
/- impl.withoutEdge -/
def c_iwithoutEdge : TC :=
 (.seq (.rg [o1 3 (.a (.t 1)),
   o1 4 (.lit [.sl [.i .i64, .i .i64]] [.slice none 0 0])])
 (.seq (.rg [o1 5 (.lit [.sl [.i .i64, .i .i64]] [.slice none 0 0])])
 (.seq (.join [⟨5, [.sl [.i .i64, .i .i64]], false⟩] 4194208 none (.seq (.rg [o1 8 (.copy 0),
   o1 9 (.len 8),
   o1 10 (.lit [.i .i64] [.int .i64 (0)])])
 (.block 0 (.loop [⟨5, [.sl [.i .i64, .i .i64]], false⟩, ⟨10, [.i .i64], false⟩] 4193440
  (.seq (.rg [o1 11 (.data (.bin .lss) [.t 10, .t 9])])
  (.seq (.cond (.t 11)
   .skip
   (.exit 0))
  (.seq (.join [⟨5, [.sl [.i .i64, .i .i64]], false⟩] 2093216 none (.block 1 (.seq (.rg [o1 12 (.index 8 (.t 10)),
    o1 13 (.load 8 [(0, 2)] 0 (.t 12) 2 false),
    ⟨false, [], [], .det 2 (.a (.c [.i .i64, .i .i64] [.int .i64 (0), .int .i64 (0)])), [7, 1000000001], (some 7), none⟩,
    o4 1 [7] (.store 7 [] 0 .nil (.t 13))])
  (.seq (.rg [o1 14 (.load 7 [] 0 .nil 2 false),
    o1 15 (.load 3 [] 0 .nil 2 false),
    o1 16 (.eqA [.i, .i] (.t 14) (.t 15) true)])
  (.cond (.t 16)
   (.rg [⟨false, [], [], .det 2 (.copy 5), [17, 5], (some 17), none⟩,
     o1 18 (.load 7 [] 0 .nil 2 false),
     o1 19 (.sli [.i .i64, .i .i64] [.t 18]),
     ⟨false, [], [], .det 2 (.app (some 17) 19), [20, 17], (some 20), none⟩,
     ⟨false, [], [], .det 2 (.copy 20), [5, 20], (some 5), none⟩])
   .skip)))))
  (.rg [o1 21 (.data (.bin .add) [.t 10, .c (.int .i64 (1))]),
    o1 10 (.copy 21)]))))))))
 (.seq (.rg [⟨false, [], [], .det 2 (.copy 5), [22, 5], (some 22), none⟩,
   ⟨false, [], [], .det 2 (.copy 22), [4, 22], (some 4), none⟩])
 .ret))))
def s_iwithoutEdge : Sig := ⟨[.rd false [.sl (.own none) [.d, .d]], .rd true [.d, .d]], (.one false [.sl (.own none) [.d, .d]])⟩
noncomputable def E_iwithoutEdge : TEnv := envOf []
noncomputable def f_iwithoutEdge (n : Nat) : (List (Int × Int)) × (Int × Int) → Option ((List (Int × Int)) × Unit) := runFn n E_iwithoutEdge c_iwithoutEdge [[.sl [.i .i64, .i .i64]], [.i .i64, .i .i64]] [.sl [.i .i64, .i .i64]] [] [4] .no
noncomputable def g_iwithoutEdge := f_iwithoutEdge BIG
noncomputable def p_iwithoutEdge : TSp := ⟨s_iwithoutEdge, [[.sl [.i .i64, .i .i64]], [.i .i64, .i .i64]], [.sl [.i .i64, .i .i64]], [], Ou.j .no, g_iwithoutEdge⟩
theorem k_iwithoutEdge : chkW PG E_iwithoutEdge 314 s_iwithoutEdge (c_iwithoutEdge.ht 23) .no = some (c_iwithoutEdge.wc E_iwithoutEdge, [4]) := by kernel_rfl
theorem ok_iwithoutEdge : p_iwithoutEdge.Ok PG 314 := mkOk (env_nil PG) k_iwithoutEdge (by kernel_rfl)
theorem e_iwithoutEdge (n : Nat) (a0 : List (Int × Int)) (a1 : Int × Int) : f_iwithoutEdge n (a0, a1) =
  Option.bind (loopT n (X := (List (Int × Int)) × Int) (B := (List (Int × Int))) (fun self1 x0 =>
    bif decide (x0.2 < (a0.length : Int)) then
     Option.bind (bnd a0.length x0.2 fun n2 =>
      Option.bind a0[n2]? fun y3 =>
      bif !(decide (y3.1 = a1.1) && (decide (y3.2 = a1.2) && true)) then
       bif decide (x0.1.length + [y3].length ≤ 4294967296) then
        some (x0.1 ++ [y3])
       else none
      else some x0.1 : Option ((List (Int × Int)))) fun x4 =>
     self1 (x4, IntKind.wrap .i64 (x0.2 + (1 : Int)))
    else some x0.1) ([], (0 : Int)) : Option ((List (Int × Int)))) fun x5 =>
  some (x5, ()) := by kernel_rfl
/- impl.TakeEdge -/
def c_iTakeEdge : TC :=
 (.seq (.rg [o1 2 (.a (.t 0)),
   o1 3 (.a (.t 1)),
   ⟨false, [], [], .det 2 (.a (.c [.i .i64, .sl [.i .i64, .i .i64]] [.int .i64 (0), .slice none 0 0])), [4, 1000000001], (some 4), none⟩,
   o1 5 (.lit [.b] [.bool false])])
 (.seq (.seq (.join [⟨14, [.b], false⟩] 32704 none (.rg [o1 6 (.load 2 [] 0 .nil 2 false),
   o3 7 275 [.t 6],
   o1 8 (.data .not [.t 7]),
   o1 9 (.copy 8),
   o2 10 (.load 2 [] 0 .nil 2 false) 3 false,
   o2 11 (.load 3 [] 0 .nil 2 false) 3 false,
   ⟨false, [], [], .call 1 268 [.t 10, .t 11] .no, [12], (some 12), some (3, false)⟩,
   o2 13 (.data .not [.t 12]) 3 false,
   ⟨false, [], [], .pick 9 (.c (.bool true)) (.t 13), [14], (some 14), none⟩]))
 (.cond (.t 14)
  (.seq (.rg [o1 15 (.build [.i .i64, .sl [.i .i64, .i .i64]] []),
    o4 2 [4, 15] (.store 4 [] 0 .nil (.t 15)),
    o1 5 (.lit [.b] [.bool false])])
  .ret)
  .skip))
 (.seq (.rg [o1 16 (.idx .nil),
   o1 17 (.load 2 [] 0 (.t 16) 1 false),
   o1 18 (.idx .nil),
   o1 19 (.load 2 [] 1 (.t 18) 1 false),
   o1 20 (.load 3 [] 0 .nil 2 false),
   o3 21 314 [.t 19, .t 20],
   ⟨false, [], [], .det 2 (.build [.i .i64, .sl [.i .i64, .i .i64]] [(0, .t 17), (1, .t 21)]), [22, 21], (some 22), none⟩,
   o4 2 [4, 22] (.store 4 [] 0 .nil (.t 22)),
   o1 5 (.lit [.b] [.bool true])])
 .ret)))
def s_iTakeEdge : Sig := ⟨[.rd true [.d, .sl (.own none) [.d, .d]], .rd true [.d, .d]], (.tup [(true, 2), (false, 1)] [.d, .sl (.own none) [.d, .d], .d])⟩
noncomputable def E_iTakeEdge : TEnv := envOf [(275, p_iGraphOk), (268, p_iHasEdge), (314, p_iwithoutEdge)]
noncomputable def f_iTakeEdge (n : Nat) : (Int × List (Int × Int)) × (Int × Int) → Option ((Int × List (Int × Int) × Bool) × Unit) := runFn n E_iTakeEdge c_iTakeEdge [[.i .i64, .sl [.i .i64, .i .i64]], [.i .i64, .i .i64]] [.i .i64, .sl [.i .i64, .i .i64], .b] [] [4, 5] .no
noncomputable def g_iTakeEdge := f_iTakeEdge BIG
noncomputable def p_iTakeEdge : TSp := ⟨s_iTakeEdge, [[.i .i64, .sl [.i .i64, .i .i64]], [.i .i64, .i .i64]], [.i .i64, .sl [.i .i64, .i .i64], .b], [], Ou.j .no, g_iTakeEdge⟩
theorem k_iTakeEdge : chkW PG E_iTakeEdge 222 s_iTakeEdge (c_iTakeEdge.ht 23) .no = some (c_iTakeEdge.wc E_iTakeEdge, [4, 5]) := by kernel_rfl
theorem ok_iTakeEdge : p_iTakeEdge.Ok PG 222 := mkOk (env_cons ok_iGraphOk (env_cons ok_iHasEdge (env_cons ok_iwithoutEdge (env_nil PG)))) k_iTakeEdge (by kernel_rfl)
theorem e_iTakeEdge (n : Nat) (a0 : Int × List (Int × Int)) (a1 : Int × Int) : f_iTakeEdge n (a0, a1) =
  Option.bind (Option.bind (g_iGraphOk a0) fun r0 =>
   bif !r0.1 then
    some true
   else Option.bind (g_iHasEdge (a0, a1)) fun r1 =>
   some !r1.1 : Option (Bool)) fun x2 =>
  bif x2 then
   some (((0 : Int), [], false), ())
  else Option.bind (g_iwithoutEdge (a0.2, a1)) fun r3 =>
  some ((a0.1, r3.1, true), ()) := by kernel_rfl
/- impl.first -/
def c_ifirst : TC :=
 (.seq (.rg [o1 2 (.lit [.sl [.i .i64]] [.slice none 0 0])])
 (.seq (.rg [o1 3 (.lit [.sl [.i .i64]] [.slice none 0 0])])
 (.seq (.join [⟨3, [.sl [.i .i64]], false⟩] 16376 none (.seq (.rg [o1 5 (.copy 0),
   o1 6 (.lit [.i .i64] [.int .i64 (0)])])
 (.block 0 (.loop [⟨3, [.sl [.i .i64]], false⟩, ⟨6, [.i .i64], false⟩] 16344
  (.seq (.rg [o1 7 (.data (.bin .lss) [.t 6, .t 5])])
  (.seq (.cond (.t 7)
   .skip
   (.exit 0))
  (.seq (.block 1 (.seq (.rg [o1 8 (.copy 6),
    o1 4 (.copy 8)])
  (.rg [⟨false, [], [], .det 2 (.copy 3), [9, 3], (some 9), none⟩,
    o1 10 (.copy 4),
    o1 11 (.sli [.i .i64] [.t 10]),
    ⟨false, [], [], .det 2 (.app (some 9) 11), [12, 9], (some 12), none⟩,
    ⟨false, [], [], .det 2 (.copy 12), [3, 12], (some 3), none⟩])))
  (.rg [o1 13 (.data (.bin .add) [.t 6, .c (.int .i64 (1))]),
    o1 6 (.copy 13)]))))))))
 (.seq (.rg [⟨false, [], [], .det 2 (.copy 3), [14, 3], (some 14), none⟩,
   ⟨false, [], [], .det 2 (.copy 14), [2, 14], (some 2), none⟩])
 .ret))))
def s_ifirst : Sig := ⟨[.rd false [.d]], (.one false [.sl (.own none) [.d]])⟩
noncomputable def E_ifirst : TEnv := envOf []
noncomputable def f_ifirst (n : Nat) : Int → Option ((List (Int)) × Unit) := runFn n E_ifirst c_ifirst [[.i .i64]] [.sl [.i .i64]] [] [2] .no
noncomputable def g_ifirst := f_ifirst BIG
noncomputable def p_ifirst : TSp := ⟨s_ifirst, [[.i .i64]], [.sl [.i .i64]], [], Ou.j .no, g_ifirst⟩
theorem k_ifirst : chkW PG E_ifirst 171 s_ifirst (c_ifirst.ht 15) .no = some (c_ifirst.wc E_ifirst, [2]) := by kernel_rfl
theorem ok_ifirst : p_ifirst.Ok PG 171 := mkOk (env_nil PG) k_ifirst (by kernel_rfl)
theorem e_ifirst (n : Nat) (a0 : Int) : f_ifirst n a0 =
  Option.bind (loopT n (X := (List (Int)) × Int) (B := (List (Int))) (fun self1 x0 =>
    bif decide (x0.2 < a0) then
     bif decide (x0.1.length + [x0.2].length ≤ 4294967296) then
      self1 (x0.1 ++ [x0.2], IntKind.wrap .i64 (x0.2 + (1 : Int)))
     else none
    else some x0.1) ([], (0 : Int)) : Option ((List (Int)))) fun x2 =>
  some (x2, ()) := by kernel_rfl
/- impl.union -/
def c_iunion : TC :=
 (.seq (.rg [o1 6 (.lit [.b] [.bool false])])
 (.seq (.rg [⟨true, [], [], .det 1 (.copy 0), [10], (some 10), none⟩,
   o1 11 (.copy 1),
   o1 12 (.index 10 (.t 11)),
   o1 13 (.load 0 [(0, 1)] 0 (.t 12) 1 false),
   ⟨true, [], [], .det 1 (.copy 0), [14], (some 14), none⟩,
   o1 15 (.copy 2),
   o1 16 (.index 14 (.t 15)),
   o1 17 (.load 0 [(0, 1)] 0 (.t 16) 1 false),
   o1 7 (.copy 13),
   o1 8 (.copy 17)])
 (.seq (.seq (.rg [o1 18 (.copy 7),
   o1 19 (.copy 8),
   o1 20 (.data (.bin .eql) [.t 18, .t 19])])
 (.cond (.t 20)
  (.seq (.rg [o1 6 (.lit [.b] [.bool false])])
  .ret)
  .skip))
 (.seq (.join [⟨0, [.sl [.i .i64]], false⟩] 2199021158913 none (.seq (.rg [⟨true, [], [], .det 1 (.copy 0), [21], (some 21), none⟩,
   o1 22 (.len 21),
   o1 23 (.lit [.i .i64] [.int .i64 (0)])])
 (.block 0 (.loop [⟨0, [.sl [.i .i64]], false⟩, ⟨23, [.i .i64], false⟩] 2199016982017
  (.seq (.rg [o1 24 (.data (.bin .lss) [.t 23, .t 22])])
  (.seq (.cond (.t 24)
   .skip
   (.exit 0))
  (.seq (.join [⟨0, [.sl [.i .i64]], false⟩] 1099478073857 none (.block 1 (.seq (.rg [o1 25 (.copy 23),
    o1 9 (.copy 25)])
  (.seq (.rg [⟨true, [], [], .det 1 (.copy 0), [26], (some 26), none⟩,
    o1 27 (.copy 9),
    o1 28 (.index 26 (.t 27)),
    o1 29 (.load 0 [(0, 1)] 0 (.t 28) 1 false),
    o1 30 (.copy 7),
    o1 31 (.copy 8),
    o1 32 (.data .max [.t 30, .t 31]),
    o1 33 (.data (.bin .eql) [.t 29, .t 32])])
  (.cond (.t 33)
   (.rg [⟨true, [], [], .det 1 (.copy 0), [34], (some 34), none⟩,
     o1 35 (.copy 9),
     o1 36 (.copy 7),
     o1 37 (.copy 8),
     o1 38 (.data .min [.t 36, .t 37]),
     o1 39 (.index 34 (.t 35)),
     o4 1 [0, 26, 34] (.store 0 [(0, 1)] 0 (.t 39) (.t 38))])
   .skip)))))
  (.rg [o1 40 (.data (.bin .add) [.t 23, .c (.int .i64 (1))]),
    o1 23 (.copy 40)]))))))))
 (.seq (.rg [o1 6 (.lit [.b] [.bool true])])
 .ret)))))
def s_iunion : Sig := ⟨[.mt false [.sl (.own none) [.d]], .rd false [.d], .rd false [.d]], (.one false [.d])⟩
noncomputable def E_iunion : TEnv := envOf []
noncomputable def f_iunion (n : Nat) : List (Int) × Int × Int → Option ((Bool) × List (Int)) := runFn n E_iunion c_iunion [[.sl [.i .i64]], [.i .i64], [.i .i64]] [.b] [.sl [.i .i64]] [6] (.mt 0 0 0)
noncomputable def g_iunion := f_iunion BIG
noncomputable def p_iunion : TSp := ⟨s_iunion, [[.sl [.i .i64]], [.i .i64], [.i .i64]], [.b], [.sl [.i .i64]], Ou.j (.mt 0 0 0), g_iunion⟩
theorem k_iunion : chkW PG E_iunion 172 s_iunion (c_iunion.ht 41) (.mt 0 0 0) = some (c_iunion.wc E_iunion, [6]) := by kernel_rfl
theorem ok_iunion : p_iunion.Ok PG 172 := mkOk (env_nil PG) k_iunion (by kernel_rfl)
theorem e_iunion (n : Nat) (a0 : List (Int)) (a1 : Int) (a2 : Int) : f_iunion n (a0, a1, a2) =
  bnd a0.length a1 fun n0 =>
  Option.bind a0[n0]? fun y1 =>
  bnd a0.length a2 fun n2 =>
  Option.bind a0[n2]? fun y3 =>
  bif decide (y1 = y3) then
   some (false, a0)
  else Option.bind (loopT n (X := (List (Int)) × Int) (B := (List (Int))) (fun self5 x4 =>
    bif decide (x4.2 < (a0.length : Int)) then
     Option.bind (bnd x4.1.length x4.2 fun n6 =>
      Option.bind x4.1[n6]? fun y7 =>
      bif decide (y7 = (if y3 > y1 then y3 else y1)) then
       bnd x4.1.length x4.2 fun n8 =>
       Option.bind x4.1[n8]? fun y9 =>
       some (x4.1.set n8 (if y3 < y1 then y3 else y1))
      else some x4.1 : Option ((List (Int)))) fun x10 =>
     self5 (x10, IntKind.wrap .i64 (x4.2 + (1 : Int)))
    else some x4.1) (a0, (0 : Int)) : Option ((List (Int)))) fun x11 =>
  some (true, x11) := by kernel_rfl
/- impl.Labels -/
def c_iLabels : TC :=
 (.seq (.rg [o1 1 (.a (.t 0)),
   o1 2 (.lit [.sl [.i .i64]] [.slice none 0 0])])
 (.seq (.seq (.rg [o1 6 (.load 1 [] 0 .nil 2 false),
   o3 7 275 [.t 6],
   o1 8 (.data .not [.t 7])])
 (.cond (.t 8)
  (.seq (.rg [o1 2 (.lit [.sl [.i .i64]] [.slice none 0 0])])
  .ret)
  .skip))
 (.seq (.rg [o1 9 (.idx .nil),
   o1 10 (.load 1 [] 0 (.t 9) 1 false),
   o3 11 171 [.t 10],
   ⟨false, [], [], .det 2 (.copy 11), [3, 11], (some 3), none⟩])
 (.seq (.join [⟨3, [.sl [.i .i64]], false⟩] 67104808 none (.seq (.rg [o1 12 (.idx .nil),
   o1 13 (.load 1 [] 1 (.t 12) 1 false),
   o1 14 (.len 13),
   o1 15 (.lit [.i .i64] [.int .i64 (0)])])
 (.block 0 (.loop [⟨3, [.sl [.i .i64]], false⟩, ⟨15, [.i .i64], false⟩] 67076136
  (.seq (.rg [o1 16 (.data (.bin .lss) [.t 15, .t 14])])
  (.seq (.cond (.t 16)
   .skip
   (.exit 0))
  (.seq (.block 1 (.seq (.rg [o1 17 (.index 13 (.t 15)),
    o1 18 (.load 13 [(0, 2)] 0 (.t 17) 2 false),
    ⟨false, [], [], .det 2 (.a (.c [.i .i64, .i .i64] [.int .i64 (0), .int .i64 (0)])), [5, 1000000001], (some 5), none⟩,
    o4 1 [5] (.store 5 [] 0 .nil (.t 18))])
  (.rg [⟨true, [], [], .det 1 (.copy 3), [19], (some 19), none⟩,
    o1 20 (.idx .nil),
    o1 21 (.load 5 [] 0 (.t 20) 1 false),
    o1 22 (.idx .nil),
    o1 23 (.load 5 [] 1 (.t 22) 1 false),
    ⟨false, [], [], .call 2 172 [.t 19, .t 21, .t 23] (.mt 3 [] 0 19 0), [24, 3, 19], (some 24), none⟩])))
  (.rg [o1 25 (.data (.bin .add) [.t 15, .c (.int .i64 (1))]),
    o1 15 (.copy 25)]))))))))
 (.seq (.rg [⟨false, [], [], .det 2 (.copy 3), [26, 3], (some 26), none⟩,
   ⟨false, [], [], .det 2 (.copy 26), [2, 26], (some 2), none⟩])
 .ret)))))
def s_iLabels : Sig := ⟨[.rd true [.d, .sl (.own none) [.d, .d]]], (.one false [.sl (.own none) [.d]])⟩
noncomputable def E_iLabels : TEnv := envOf [(275, p_iGraphOk), (171, p_ifirst), (172, p_iunion)]
noncomputable def f_iLabels (n : Nat) : (Int × List (Int × Int)) → Option ((List (Int)) × Unit) := runFn n E_iLabels c_iLabels [[.i .i64, .sl [.i .i64, .i .i64]]] [.sl [.i .i64]] [] [2] .no
noncomputable def g_iLabels := f_iLabels BIG
noncomputable def p_iLabels : TSp := ⟨s_iLabels, [[.i .i64, .sl [.i .i64, .i .i64]]], [.sl [.i .i64]], [], Ou.j .no, g_iLabels⟩
theorem k_iLabels : chkW PG E_iLabels 315 s_iLabels (c_iLabels.ht 27) .no = some (c_iLabels.wc E_iLabels, [2]) := by kernel_rfl
theorem ok_iLabels : p_iLabels.Ok PG 315 := mkOk (env_cons ok_iGraphOk (env_cons ok_ifirst (env_cons ok_iunion (env_nil PG)))) k_iLabels (by kernel_rfl)
theorem e_iLabels (n : Nat) (a0 : Int × List (Int × Int)) : f_iLabels n a0 =
  Option.bind (g_iGraphOk a0) fun r0 =>
  bif !r0.1 then
   some ([], ())
  else Option.bind (g_ifirst a0.1) fun r1 =>
  Option.bind (loopT n (X := (List (Int)) × Int) (B := (List (Int))) (fun self3 x2 =>
    bif decide (x2.2 < (a0.2.length : Int)) then
     bnd a0.2.length x2.2 fun n4 =>
     Option.bind a0.2[n4]? fun y5 =>
     Option.bind (g_iunion (x2.1, y5.1, y5.2)) fun r6 =>
     self3 (r6.2, IntKind.wrap .i64 (x2.2 + (1 : Int)))
    else some x2.1) (r1.1, (0 : Int)) : Option ((List (Int)))) fun x7 =>
  some (x7, ()) := by kernel_rfl
/- impl.Together -/
def c_iTogether : TC :=
 (.seq (.rg [o1 3 (.a (.t 0)),
   o1 6 (.lit [.b] [.bool false])])
 (.seq (.seq (.join [⟨26, [.b], false⟩] 134217472 none (.rg [o1 8 (.load 3 [] 0 .nil 2 false),
   o3 9 275 [.t 8],
   o1 10 (.data .not [.t 9]),
   o1 11 (.copy 10),
   o2 12 (.copy 1) 3 false,
   o2 13 (.idx .nil) 3 false,
   o2 14 (.load 3 [] 0 (.t 13) 1 false) 3 false,
   o2 15 (.data (.bin .sub) [.t 14, .c (.int .i64 (1))]) 3 false,
   ⟨false, [], [], .call 1 161 [.t 12, .c [.i .i64] [.int .i64 (0)], .t 15] .no, [16], (some 16), some (3, false)⟩,
   o2 17 (.data .not [.t 16]) 3 false,
   ⟨false, [], [], .pick 11 (.c (.bool true)) (.t 17), [18], (some 18), none⟩,
   o1 19 (.copy 18),
   o2 20 (.copy 2) 11 false,
   o2 21 (.idx .nil) 11 false,
   o2 22 (.load 3 [] 0 (.t 21) 1 false) 11 false,
   o2 23 (.data (.bin .sub) [.t 22, .c (.int .i64 (1))]) 11 false,
   ⟨false, [], [], .call 1 161 [.t 20, .c [.i .i64] [.int .i64 (0)], .t 23] .no, [24], (some 24), some (11, false)⟩,
   o2 25 (.data .not [.t 24]) 11 false,
   ⟨false, [], [], .pick 19 (.c (.bool true)) (.t 25), [26], (some 26), none⟩]))
 (.cond (.t 26)
  (.seq (.rg [o1 6 (.lit [.b] [.bool false])])
  .ret)
  .skip))
 (.seq (.rg [o1 27 (.load 3 [] 0 .nil 2 false),
   o3 28 315 [.t 27],
   ⟨false, [], [], .det 2 (.copy 28), [7, 28], (some 7), none⟩])
 (.seq (.rg [⟨true, [], [], .det 1 (.copy 7), [29], (some 29), none⟩,
   o1 30 (.copy 1),
   o1 31 (.index 29 (.t 30)),
   o1 32 (.load 7 [(0, 1)] 0 (.t 31) 1 false),
   ⟨true, [], [], .det 1 (.copy 7), [33], (some 33), none⟩,
   o1 34 (.copy 2),
   o1 35 (.index 33 (.t 34)),
   o1 36 (.load 7 [(0, 1)] 0 (.t 35) 1 false),
   o1 37 (.data (.bin .eql) [.t 32, .t 36]),
   o1 6 (.copy 37)])
 .ret))))
def s_iTogether : Sig := ⟨[.rd true [.d, .sl (.own none) [.d, .d]], .rd false [.d], .rd false [.d]], (.one false [.d])⟩
noncomputable def E_iTogether : TEnv := envOf [(275, p_iGraphOk), (161, p_iin), (315, p_iLabels)]
noncomputable def f_iTogether (n : Nat) : (Int × List (Int × Int)) × Int × Int → Option ((Bool) × Unit) := runFn n E_iTogether c_iTogether [[.i .i64, .sl [.i .i64, .i .i64]], [.i .i64], [.i .i64]] [.b] [] [6] .no
noncomputable def g_iTogether := f_iTogether BIG
noncomputable def p_iTogether : TSp := ⟨s_iTogether, [[.i .i64, .sl [.i .i64, .i .i64]], [.i .i64], [.i .i64]], [.b], [], Ou.j .no, g_iTogether⟩
theorem k_iTogether : chkW PG E_iTogether 224 s_iTogether (c_iTogether.ht 38) .no = some (c_iTogether.wc E_iTogether, [6]) := by kernel_rfl
theorem ok_iTogether : p_iTogether.Ok PG 224 := mkOk (env_cons ok_iGraphOk (env_cons ok_iin (env_cons ok_iLabels (env_nil PG)))) k_iTogether (by kernel_rfl)
theorem e_iTogether (n : Nat) (a0 : Int × List (Int × Int)) (a1 : Int) (a2 : Int) : f_iTogether n (a0, a1, a2) =
  Option.bind (Option.bind (g_iGraphOk a0) fun r0 =>
   bif !r0.1 then
    some true
   else Option.bind (g_iin (a1, (0 : Int), IntKind.wrap .i64 (a0.1 - (1 : Int)))) fun r1 =>
   bif !r1.1 then
    some true
   else Option.bind (g_iin (a2, (0 : Int), IntKind.wrap .i64 (a0.1 - (1 : Int)))) fun r2 =>
   some !r2.1 : Option (Bool)) fun x3 =>
  bif x3 then
   some (false, ())
  else Option.bind (g_iLabels a0) fun r4 =>
  bnd r4.1.length a1 fun n5 =>
  Option.bind r4.1[n5]? fun y6 =>
  bnd r4.1.length a2 fun n7 =>
  Option.bind r4.1[n7]? fun y8 =>
  some (decide (y6 = y8), ()) := by kernel_rfl
/- impl.yesNo -/
def c_iyesNo : TC :=
 (.seq (.rg [o1 2 (.lit [.i .i64] [.int .i64 (0)])])
 (.seq (.seq (.rg [o1 3 (.copy 0)])
 (.cond (.t 3)
  (.seq (.rg [o1 2 (.lit [.i .i64] [.int .i64 (1)])])
  .ret)
  .skip))
 (.seq (.rg [o1 2 (.lit [.i .i64] [.int .i64 (2)])])
 .ret)))
def s_iyesNo : Sig := ⟨[.rd false [.d]], (.one false [.d])⟩
noncomputable def E_iyesNo : TEnv := envOf []
noncomputable def f_iyesNo (n : Nat) : Bool → Option ((Int) × Unit) := runFn n E_iyesNo c_iyesNo [[.b]] [.i .i64] [] [2] .no
noncomputable def g_iyesNo := f_iyesNo BIG
noncomputable def p_iyesNo : TSp := ⟨s_iyesNo, [[.b]], [.i .i64], [], Ou.j .no, g_iyesNo⟩
theorem k_iyesNo : chkW PG E_iyesNo 223 s_iyesNo (c_iyesNo.ht 4) .no = some (c_iyesNo.wc E_iyesNo, [2]) := by kernel_rfl
theorem ok_iyesNo : p_iyesNo.Ok PG 223 := mkOk (env_nil PG) k_iyesNo (by kernel_rfl)
theorem e_iyesNo (n : Nat) (a0 : Bool) : f_iyesNo n a0 =
  bif a0 then
   some ((1 : Int), ())
  else some ((2 : Int), ()) := by kernel_rfl
/- impl.Model -/
def c_iModel : TC :=
 (.seq (.rg [o1 2 (.a (.t 0)),
   o1 3 (.a (.t 1)),
   ⟨false, [], [], .det 2 (.a (.c [.i .i64, .sl [.i .i64, .i .i64]] [.int .i64 (0), .slice none 0 0])), [4, 1000000001], (some 4), none⟩,
   o1 5 (.lit [.i .i64] [.int .i64 (0)])])
 (.seq (.rg [⟨false, [], [1000000001], .det 1 (.idx .nil), [11], (some 11), none⟩,
   ⟨false, [], [1000000001], .det 1 (.load 2 [] 0 (.t 11) 1 false), [12], (some 12), none⟩,
   ⟨false, [], [1000000001], .det 1 (.idx .nil), [13], (some 13), none⟩,
   ⟨false, [], [1000000001], .det 1 (.load 2 [] 1 (.t 13) 1 false), [14], (some 14), none⟩,
   ⟨false, [], [1000000001], .call 1 219 [.t 14] .no, [15], (some 15), none⟩,
   ⟨false, [], [1000000001], .det 2 (.build [.i .i64, .sl [.i .i64, .i .i64]] [(0, .t 12), (1, .t 15)]), [16, 15], (some 16), none⟩,
   ⟨false, [], [], .det 2 (.a (.c [.i .i64, .sl [.i .i64, .i .i64]] [.int .i64 (0), .slice none 0 0])), [6, 1000000001], (some 6), none⟩,
   o4 2 [6, 16] (.store 6 [] 0 .nil (.t 16))])
 (.seq (.rg [o1 17 (.idx .nil),
   o1 18 (.load 2 [] 0 (.t 17) 1 false),
   o1 19 (.data (.bin .sub) [.t 18, .c (.int .i64 (1))]),
   o1 7 (.copy 19),
   o1 8 (.lit [.i .i64] [.int .i64 (0)])])
 (.seq (.join [⟨8, [.i .i64], false⟩, ⟨7, [.i .i64], false⟩] 7340416 none (.seq (.rg [o1 20 (.idx .nil),
   o1 21 (.load 3 [] 1 (.t 20) 1 false),
   o1 22 (.data (.bin .eql) [.t 21, .c (.int .i64 (4))])])
 (.cond (.t 22)
  (.rg [o1 8 (.lit [.i .i64] [.int .i64 (1)]),
    o1 7 (.lit [.i .i64] [.int .i64 (3)])])
  .skip)))
 (.seq (.seq (.join [⟨65, [.b], false⟩] 73786976294829817856 none (.rg [o1 23 (.idx .nil),
   o1 24 (.load 2 [] 0 (.t 23) 1 false),
   o1 25 (.data (.bin .lss) [.t 24, .c (.int .i64 (1))]),
   o1 26 (.copy 25),
   o2 27 (.idx .nil) 3 false,
   o2 28 (.load 3 [] 1 (.t 27) 1 false) 3 false,
   ⟨false, [], [], .call 1 161 [.t 28, .c [.i .i64] [.int .i64 (1)], .c [.i .i64] [.int .i64 (4)]] .no, [29], (some 29), some (3, false)⟩,
   o2 30 (.data .not [.t 29]) 3 false,
   ⟨false, [], [], .pick 26 (.c (.bool true)) (.t 30), [31], (some 31), none⟩,
   o1 32 (.copy 31),
   o2 33 (.idx .nil) 9 false,
   o2 34 (.load 3 [] 2 (.t 33) 1 false) 9 false,
   o2 35 (.idx .nil) 9 false,
   o2 36 (.load 2 [] 0 (.t 35) 1 false) 9 false,
   o2 37 (.data (.bin .sub) [.t 36, .c (.int .i64 (1))]) 9 false,
   ⟨false, [], [], .call 1 161 [.t 34, .c [.i .i64] [.int .i64 (0)], .t 37] .no, [38], (some 38), some (9, false)⟩,
   o2 39 (.data .not [.t 38]) 9 false,
   ⟨false, [], [], .pick 32 (.c (.bool true)) (.t 39), [40], (some 40), none⟩,
   o1 41 (.copy 40),
   o2 42 (.idx .nil) 18 false,
   o2 43 (.load 3 [] 3 (.t 42) 1 false) 18 false,
   o2 44 (.copy 8) 18 false,
   o2 45 (.copy 7) 18 false,
   ⟨false, [], [], .call 1 161 [.t 43, .t 44, .t 45] .no, [46], (some 46), some (18, false)⟩,
   o2 47 (.data .not [.t 46]) 18 false,
   ⟨false, [], [], .pick 41 (.c (.bool true)) (.t 47), [48], (some 48), none⟩,
   o1 49 (.copy 48),
   o2 50 (.idx .nil) 26 false,
   o2 51 (.load 3 [] 2 (.t 50) 1 false) 26 false,
   o2 52 (.idx .nil) 26 false,
   o2 53 (.load 3 [] 3 (.t 52) 1 false) 26 false,
   o2 54 (.data (.bin .eql) [.t 51, .t 53]) 26 false,
   o2 55 (.copy 54) 26 false,
   o2 56 (.idx .nil) 32 true,
   o2 57 (.load 3 [] 1 (.t 56) 1 false) 32 true,
   o2 58 (.data (.bin .eql) [.t 57, .c (.int .i64 (1))]) 32 true,
   o2 59 (.copy 58) 32 true,
   o2 60 (.idx .nil) 36 false,
   o2 61 (.load 3 [] 1 (.t 60) 1 false) 36 false,
   o2 62 (.data (.bin .eql) [.t 61, .c (.int .i64 (2))]) 36 false,
   ⟨false, [], [], .pick 59 (.c (.bool true)) (.t 62), [63], (some 63), some (32, true)⟩,
   ⟨false, [], [], .pick 55 (.t 63) (.c (.bool false)), [64], (some 64), some (26, false)⟩,
   ⟨false, [], [], .pick 49 (.c (.bool true)) (.t 64), [65], (some 65), none⟩]))
 (.cond (.t 65)
  (.seq (.rg [o1 66 (.load 6 [] 0 .nil 2 true),
    ⟨false, [66], [], .det 2 (.store 4 [] 0 .nil (.t 66)), [4, 66, 66, 6], none, none⟩,
    o1 5 (.lit [.i .i64] [.int .i64 (3)])])
  .ret)
  .skip))
 (.seq (.rg [o1 67 (.load 6 [] 0 .nil 2 true),
   ⟨false, [], [], .det 2 (.a (.c [.i .i64, .sl [.i .i64, .i .i64]] [.int .i64 (0), .slice none 0 0])), [9, 1000000001], (some 9), none⟩,
   o4 1 [9] (.store 9 [] 0 .nil (.t 67)),
   o1 10 (.lit [.b] [.bool false])])
 (.seq (.join [⟨9, [.i .i64, .sl [.i .i64, .i .i64]], false⟩, ⟨10, [.b], false⟩, ⟨4, [.i .i64, .sl [.i .i64, .i .i64]], false⟩, ⟨6, [.i .i64, .sl [.i .i64, .i .i64]], false⟩] 633825299966540748158675191408 (some [⟨4, [.i .i64, .sl [.i .i64, .i .i64]], false⟩, ⟨5, [.i .i64], false⟩]) (.seq (.rg [o1 68 (.idx .nil),
   o1 69 (.load 3 [] 1 (.t 68) 1 false)])
 (.block 0 (.seq (.rg [o1 72 (.data (.bin .eql) [.t 69, .c (.int .i64 (1))]),
   o1 71 (.copy 72)])
 (.cond (.t 71)
  (.rg [o1 74 (.load 2 [] 0 .nil 2 false),
    o1 75 (.load 3 [] 0 .nil 4 false),
    o3 76 221 [.t 75],
    o3 77 220 [.t 74, .t 76],
    ⟨false, [], [], .det 2 (.copy 77), [73, 77], (some 73), none⟩,
    ⟨false, [], [], .det 2 (.ext 73 0 2), [78, 73], (some 78), none⟩,
    o1 79 (.ext 73 2 1),
    o4 2 [9, 78] (.store 9 [] 0 .nil (.t 78)),
    o1 10 (.copy 79)])
  (.seq (.rg [o1 81 (.data (.bin .eql) [.t 69, .c (.int .i64 (2))]),
    o1 80 (.copy 81)])
  (.cond (.t 80)
   (.rg [o1 83 (.load 2 [] 0 .nil 2 false),
     o1 84 (.load 3 [] 0 .nil 4 false),
     o3 85 221 [.t 84],
     o3 86 222 [.t 83, .t 85],
     ⟨false, [], [], .det 2 (.copy 86), [82, 86], (some 82), none⟩,
     ⟨false, [], [], .det 2 (.ext 82 0 2), [87, 82], (some 87), none⟩,
     o1 88 (.ext 82 2 1),
     o4 2 [9, 87] (.store 9 [] 0 .nil (.t 87)),
     o1 10 (.copy 88)])
   (.seq (.rg [o1 90 (.data (.bin .eql) [.t 69, .c (.int .i64 (3))]),
     o1 89 (.copy 90)])
   (.cond (.t 89)
    (.seq (.rg [o1 91 (.load 6 [] 0 .nil 2 true),
      o1 92 (.load 2 [] 0 .nil 2 false),
      o1 93 (.idx .nil),
      o1 94 (.load 3 [] 2 (.t 93) 1 false),
      o1 95 (.idx .nil),
      o1 96 (.load 3 [] 3 (.t 95) 1 false),
      o3 97 224 [.t 92, .t 94, .t 96],
      o3 98 223 [.t 97],
      ⟨false, [91], [], .det 2 (.store 4 [] 0 .nil (.t 91)), [4, 91, 91, 6, 9, 67], none, none⟩,
      o1 5 (.copy 98)])
    .ret)
    (.seq (.rg [o1 70 (.load 6 [] 0 .nil 2 true),
      ⟨false, [70], [], .det 2 (.store 4 [] 0 .nil (.t 70)), [4, 70, 70, 6, 9, 67], none, none⟩,
      o1 5 (.lit [.i .i64] [.int .i64 (1)])])
    .ret))))))))))
 (.seq (.seq (.rg [o1 99 (.copy 10),
   o1 100 (.data .not [.t 99])])
 (.cond (.t 100)
  (.seq (.rg [o1 101 (.load 6 [] 0 .nil 2 true),
    ⟨false, [101], [], .det 2 (.store 4 [] 0 .nil (.t 101)), [4, 101, 101, 6, 67], none, none⟩,
    o1 5 (.lit [.i .i64] [.int .i64 (2)])])
  .ret)
  .skip))
 (.seq (.rg [o1 102 (.load 9 [] 0 .nil 2 true),
   ⟨false, [102], [], .det 2 (.store 4 [] 0 .nil (.t 102)), [4, 102, 102, 9], none, none⟩,
   o1 5 (.lit [.i .i64] [.int .i64 (1)])])
 .ret)))))))))
def s_iModel : Sig := ⟨[.rd true [.d, .sl (.own none) [.d, .d]], .rd true [.d, .d, .d, .d]], (.tup [(true, 2), (false, 1)] [.d, .sl (.own none) [.d, .d], .d])⟩
noncomputable def E_iModel : TEnv := envOf [(219, p_icopyEdges), (161, p_iin), (221, p_iedgeOf), (220, p_iAddEdge), (222, p_iTakeEdge), (224, p_iTogether), (223, p_iyesNo)]
noncomputable def f_iModel (n : Nat) : (Int × List (Int × Int)) × (Int × Int × Int × Int) → Option ((Int × List (Int × Int) × Int) × Unit) := runFn n E_iModel c_iModel [[.i .i64, .sl [.i .i64, .i .i64]], [.i .i64, .i .i64, .i .i64, .i .i64]] [.i .i64, .sl [.i .i64, .i .i64], .i .i64] [] [4, 5] .no
noncomputable def g_iModel := f_iModel BIG
noncomputable def p_iModel : TSp := ⟨s_iModel, [[.i .i64, .sl [.i .i64, .i .i64]], [.i .i64, .i .i64, .i .i64, .i .i64]], [.i .i64, .sl [.i .i64, .i .i64], .i .i64], [], Ou.j .no, g_iModel⟩
theorem k_iModel : chkW PG E_iModel 92 s_iModel (c_iModel.ht 103) .no = some (c_iModel.wc E_iModel, [4, 5]) := by kernel_rfl
theorem ok_iModel : p_iModel.Ok PG 92 := mkOk (env_cons ok_icopyEdges (env_cons ok_iin (env_cons ok_iedgeOf (env_cons ok_iAddEdge (env_cons ok_iTakeEdge (env_cons ok_iTogether (env_cons ok_iyesNo (env_nil PG)))))))) k_iModel (by kernel_rfl)
theorem e_iModel (n : Nat) (a0 : Int × List (Int × Int)) (a1 : Int × Int × Int × Int) : f_iModel n (a0, a1) =
  Option.bind (g_icopyEdges a0.2) fun r0 =>
  Option.bind (bif decide (a1.2.1 = (4 : Int)) then
    some ((1 : Int), (3 : Int))
   else some ((0 : Int), IntKind.wrap .i64 (a0.1 - (1 : Int))) : Option (Int × Int)) fun x1 =>
  Option.bind (bif decide (a0.1 < (1 : Int)) then
    some true
   else Option.bind (g_iin (a1.2.1, (1 : Int), (4 : Int))) fun r2 =>
   bif !r2.1 then
    some true
   else Option.bind (g_iin (a1.2.2.1, (0 : Int), IntKind.wrap .i64 (a0.1 - (1 : Int)))) fun r3 =>
   bif !r3.1 then
    some true
   else Option.bind (g_iin (a1.2.2.2, x1.1, x1.2)) fun r4 =>
   bif !r4.1 then
    some true
   else bif decide (a1.2.2.1 = a1.2.2.2) then
    bif decide (a1.2.1 = (1 : Int)) then
     some true
    else some (decide (a1.2.1 = (2 : Int)))
   else some false : Option (Bool)) fun x5 =>
  bif x5 then
   some ((a0.1, r0.1, (3 : Int)), ())
  else Option.bind (bif decide (a1.2.1 = (1 : Int)) then
    Option.bind (g_iedgeOf a1) fun r6 =>
    Option.bind (g_iAddEdge (a0, r6.1)) fun r7 =>
    some (Sum.inl ((r7.1.1, r7.1.2.1), r7.1.2.2, ((0 : Int), []), (a0.1, r0.1)))
   else bif decide (a1.2.1 = (2 : Int)) then
    Option.bind (g_iedgeOf a1) fun r8 =>
    Option.bind (g_iTakeEdge (a0, r8.1)) fun r9 =>
    some (Sum.inl ((r9.1.1, r9.1.2.1), r9.1.2.2, ((0 : Int), []), (a0.1, r0.1)))
   else bif decide (a1.2.1 = (3 : Int)) then
    Option.bind (g_iTogether (a0, a1.2.2.1, a1.2.2.2)) fun r10 =>
    Option.bind (g_iyesNo r10.1) fun r11 =>
    some (Sum.inr ((a0.1, r0.1), r11.1))
   else some (Sum.inr ((a0.1, r0.1), (1 : Int))) : Option (((Int × List (Int × Int)) × Bool × (Int × List (Int × Int)) × (Int × List (Int × Int))) ⊕ ((Int × List (Int × Int)) × Int))) fun y => match y with
  | .inl x12 =>
   bif !x12.2.1 then
    some ((x12.2.2.2.1, x12.2.2.2.2, (2 : Int)), ())
   else some ((x12.1.1, x12.1.2, (1 : Int)), ())
  | .inr x12 =>
   some ((x12.1.1, x12.1.2, x12.2), ()) := by kernel_rfl
/- laws.eqEdge -/
def c_leqEdge : TC :=
 (.seq (.rg [o1 2 (.a (.t 0)),
   o1 3 (.a (.t 1)),
   o1 4 (.lit [.b] [.bool false])])
 (.seq (.seq (.rg [o1 5 (.idx .nil),
   o1 6 (.load 2 [] 0 (.t 5) 1 false),
   o1 7 (.idx .nil),
   o1 8 (.load 3 [] 0 (.t 7) 1 false),
   o1 9 (.data (.bin .neq) [.t 6, .t 8])])
 (.cond (.t 9)
  (.seq (.rg [o1 4 (.lit [.b] [.bool false])])
  .ret)
  .skip))
 (.seq (.seq (.rg [o1 10 (.idx .nil),
   o1 11 (.load 2 [] 1 (.t 10) 1 false),
   o1 12 (.idx .nil),
   o1 13 (.load 3 [] 1 (.t 12) 1 false),
   o1 14 (.data (.bin .neq) [.t 11, .t 13])])
 (.cond (.t 14)
  (.seq (.rg [o1 4 (.lit [.b] [.bool false])])
  .ret)
  .skip))
 (.seq (.rg [o1 4 (.lit [.b] [.bool true])])
 .ret))))
def s_leqEdge : Sig := ⟨[.rd true [.d, .d], .rd true [.d, .d]], (.one false [.d])⟩
noncomputable def E_leqEdge : TEnv := envOf []
noncomputable def f_leqEdge (n : Nat) : (Int × Int) × (Int × Int) → Option ((Bool) × Unit) := runFn n E_leqEdge c_leqEdge [[.i .i64, .i .i64], [.i .i64, .i .i64]] [.b] [] [4] .no
noncomputable def g_leqEdge := f_leqEdge BIG
noncomputable def p_leqEdge : TSp := ⟨s_leqEdge, [[.i .i64, .i .i64], [.i .i64, .i .i64]], [.b], [], Ou.j .no, g_leqEdge⟩
theorem k_leqEdge : chkW PG E_leqEdge 174 s_leqEdge (c_leqEdge.ht 15) .no = some (c_leqEdge.wc E_leqEdge, [4]) := by kernel_rfl
theorem ok_leqEdge : p_leqEdge.Ok PG 174 := mkOk (env_nil PG) k_leqEdge (by kernel_rfl)
theorem e_leqEdge (n : Nat) (a0 : Int × Int) (a1 : Int × Int) : f_leqEdge n (a0, a1) =
  bif !decide (a0.1 = a1.1) then
   some (false, ())
  else bif !decide (a0.2 = a1.2) then
   some (false, ())
  else some (true, ()) := by kernel_rfl
/- laws.eqEdgeS -/
def c_leqEdgeS : TC :=
 (.seq (.rg [o1 4 (.lit [.b] [.bool false])])
 (.seq (.seq (.rg [o1 6 (.copy 0),
   o1 7 (.len 6),
   o1 8 (.copy 1),
   o1 9 (.len 8),
   o1 10 (.data (.bin .neq) [.t 7, .t 9])])
 (.cond (.t 10)
  (.seq (.rg [o1 4 (.lit [.b] [.bool false])])
  .ret)
  .skip))
 (.seq (.join [] 134215728 (some [⟨4, [.b], false⟩]) (.seq (.rg [o1 5 (.lit [.i .i64] [.int .i64 (0)])])
 (.block 0 (.loop [⟨5, [.i .i64], false⟩] 134215728
  (.seq (.seq (.rg [o1 11 (.copy 5),
    o1 12 (.copy 0),
    o1 13 (.len 12),
    o1 14 (.data (.bin .lss) [.t 11, .t 13])])
  (.cond (.t 14)
   .skip
   (.exit 0)))
  (.seq (.block 1 (.seq (.rg [o1 17 (.copy 0),
    o1 18 (.copy 5),
    o1 19 (.index 17 (.t 18)),
    o1 20 (.load 17 [(0, 2)] 0 (.t 19) 2 false),
    o1 21 (.copy 1),
    o1 22 (.copy 5),
    o1 23 (.index 21 (.t 22)),
    o1 24 (.load 21 [(0, 2)] 0 (.t 23) 2 false),
    o3 25 174 [.t 20, .t 24],
    o1 26 (.data .not [.t 25])])
  (.cond (.t 26)
   (.seq (.rg [o1 4 (.lit [.b] [.bool false])])
   .ret)
   .skip)))
  (.rg [o1 15 (.copy 5),
    o1 16 (.data (.bin .add) [.t 15, .c (.int .i64 (1))]),
    o1 5 (.copy 16)])))))))
 (.seq (.rg [o1 4 (.lit [.b] [.bool true])])
 .ret))))
def s_leqEdgeS : Sig := ⟨[.rd false [.sl (.own none) [.d, .d]], .rd false [.sl (.own none) [.d, .d]]], (.one false [.d])⟩
noncomputable def E_leqEdgeS : TEnv := envOf [(174, p_leqEdge)]
noncomputable def f_leqEdgeS (n : Nat) : (List (Int × Int)) × (List (Int × Int)) → Option ((Bool) × Unit) := runFn n E_leqEdgeS c_leqEdgeS [[.sl [.i .i64, .i .i64]], [.sl [.i .i64, .i .i64]]] [.b] [] [4] .no
noncomputable def g_leqEdgeS := f_leqEdgeS BIG
noncomputable def p_leqEdgeS : TSp := ⟨s_leqEdgeS, [[.sl [.i .i64, .i .i64]], [.sl [.i .i64, .i .i64]]], [.b], [], Ou.j .no, g_leqEdgeS⟩
theorem k_leqEdgeS : chkW PG E_leqEdgeS 41 s_leqEdgeS (c_leqEdgeS.ht 27) .no = some (c_leqEdgeS.wc E_leqEdgeS, [4]) := by kernel_rfl
theorem ok_leqEdgeS : p_leqEdgeS.Ok PG 41 := mkOk (env_cons ok_leqEdge (env_nil PG)) k_leqEdgeS (by kernel_rfl)
theorem e_leqEdgeS (n : Nat) (a0 : List (Int × Int)) (a1 : List (Int × Int)) : f_leqEdgeS n (a0, a1) =
  bif !decide ((a0.length : Int) = (a1.length : Int)) then
   some (false, ())
  else Option.bind (loopT n (X := Int) (B := (Unit) ⊕ (Bool)) (fun self1 x0 =>
    bif decide (x0 < (a0.length : Int)) then
     bnd a0.length x0 fun n2 =>
     Option.bind a0[n2]? fun y3 =>
     bnd a1.length x0 fun n4 =>
     Option.bind a1[n4]? fun y5 =>
     Option.bind (g_leqEdge (y3, y5)) fun r6 =>
     bif !r6.1 then
      some (Sum.inr false)
     else self1 (IntKind.wrap .i64 (x0 + (1 : Int)))
    else some (Sum.inl ())) (0 : Int) : Option ((Unit) ⊕ (Bool))) fun y => match y with
  | .inl x7 =>
   some (true, ())
  | .inr x7 =>
   some (x7, ()) := by kernel_rfl
/- laws.eqGraph -/
def c_leqGraph : TC :=
 (.seq (.rg [o1 2 (.a (.t 0)),
   o1 3 (.a (.t 1)),
   o1 4 (.lit [.b] [.bool false])])
 (.seq (.seq (.rg [o1 5 (.idx .nil),
   o1 6 (.load 2 [] 0 (.t 5) 1 false),
   o1 7 (.idx .nil),
   o1 8 (.load 3 [] 0 (.t 7) 1 false),
   o1 9 (.data (.bin .neq) [.t 6, .t 8])])
 (.cond (.t 9)
  (.seq (.rg [o1 4 (.lit [.b] [.bool false])])
  .ret)
  .skip))
 (.seq (.seq (.rg [o1 10 (.idx .nil),
   o1 11 (.load 2 [] 1 (.t 10) 1 false),
   o1 12 (.idx .nil),
   o1 13 (.load 3 [] 1 (.t 12) 1 false),
   o3 14 41 [.t 11, .t 13],
   o1 15 (.data .not [.t 14])])
 (.cond (.t 15)
  (.seq (.rg [o1 4 (.lit [.b] [.bool false])])
  .ret)
  .skip))
 (.seq (.rg [o1 4 (.lit [.b] [.bool true])])
 .ret))))
def s_leqGraph : Sig := ⟨[.rd true [.d, .sl (.own none) [.d, .d]], .rd true [.d, .sl (.own none) [.d, .d]]], (.one false [.d])⟩
noncomputable def E_leqGraph : TEnv := envOf [(41, p_leqEdgeS)]
noncomputable def f_leqGraph (n : Nat) : (Int × List (Int × Int)) × (Int × List (Int × Int)) → Option ((Bool) × Unit) := runFn n E_leqGraph c_leqGraph [[.i .i64, .sl [.i .i64, .i .i64]], [.i .i64, .sl [.i .i64, .i .i64]]] [.b] [] [4] .no
noncomputable def g_leqGraph := f_leqGraph BIG
noncomputable def p_leqGraph : TSp := ⟨s_leqGraph, [[.i .i64, .sl [.i .i64, .i .i64]], [.i .i64, .sl [.i .i64, .i .i64]]], [.b], [], Ou.j .no, g_leqGraph⟩
theorem k_leqGraph : chkW PG E_leqGraph 93 s_leqGraph (c_leqGraph.ht 16) .no = some (c_leqGraph.wc E_leqGraph, [4]) := by kernel_rfl
theorem ok_leqGraph : p_leqGraph.Ok PG 93 := mkOk (env_cons ok_leqEdgeS (env_nil PG)) k_leqGraph (by kernel_rfl)
theorem e_leqGraph (n : Nat) (a0 : Int × List (Int × Int)) (a1 : Int × List (Int × Int)) : f_leqGraph n (a0, a1) =
  bif !decide (a0.1 = a1.1) then
   some (false, ())
  else Option.bind (g_leqEdgeS (a0.2, a1.2)) fun r0 =>
  bif !r0.1 then
   some (false, ())
  else some (true, ()) := by kernel_rfl
/- laws.markEdgeS -/
def c_lmarkEdgeS : TC :=
 (.seq (.rg [o1 4 (.lit [.i .i64] [.int .i64 (0)])])
 (.seq (.join [⟨0, [.sl [.i .i64, .i .i64]], false⟩, ⟨1, [.i .i64], false⟩] 67108835 none (.seq (.rg [o1 5 (.lit [.i .i64] [.int .i64 (0)])])
 (.block 0 (.loop [⟨0, [.sl [.i .i64, .i .i64]], false⟩, ⟨1, [.i .i64], false⟩, ⟨5, [.i .i64], false⟩] 67108835
  (.seq (.seq (.rg [o1 6 (.copy 5),
    ⟨true, [], [], .det 1 (.copy 0), [7], (some 7), none⟩,
    o1 8 (.len 7),
    o1 9 (.data (.bin .lss) [.t 6, .t 8])])
  (.cond (.t 9)
   .skip
   (.exit 0)))
  (.seq (.block 1 (.seq (.rg [⟨true, [], [], .det 1 (.copy 0), [12], (some 12), none⟩,
    o1 13 (.copy 5),
    o1 14 (.copy 1),
    o1 15 (.index 12 (.t 13)),
    o1 16 (.idx (.t 15)),
    o4 1 [0, 7, 12] (.store 0 [(0, 2)] 0 (.t 16) (.t 14))])
  (.seq (.rg [o1 17 (.copy 1),
    o1 18 (.data (.bin .add) [.t 17, .c (.int .i64 (1))]),
    o1 1 (.copy 18)])
  (.seq (.rg [⟨true, [], [], .det 1 (.copy 0), [19], (some 19), none⟩,
    o1 20 (.copy 5),
    o1 21 (.copy 1),
    o1 22 (.index 19 (.t 20)),
    o1 23 (.idx (.t 22)),
    o4 1 [0, 19] (.store 0 [(0, 2)] 1 (.t 23) (.t 21))])
  (.rg [o1 24 (.copy 1),
    o1 25 (.data (.bin .add) [.t 24, .c (.int .i64 (1))]),
    o1 1 (.copy 25)])))))
  (.rg [o1 10 (.copy 5),
    o1 11 (.data (.bin .add) [.t 10, .c (.int .i64 (1))]),
    o1 5 (.copy 11)])))))))
 (.seq (.rg [o1 26 (.copy 1),
   o1 4 (.copy 26)])
 .ret)))
def s_lmarkEdgeS : Sig := ⟨[.mt false [.sl (.own none) [.d, .d]], .rd false [.d]], (.one false [.d])⟩
noncomputable def E_lmarkEdgeS : TEnv := envOf []
noncomputable def f_lmarkEdgeS (n : Nat) : (List (Int × Int)) × Int → Option ((Int) × List (Int × Int)) := runFn n E_lmarkEdgeS c_lmarkEdgeS [[.sl [.i .i64, .i .i64]], [.i .i64]] [.i .i64] [.sl [.i .i64, .i .i64]] [4] (.mt 0 0 0)
noncomputable def g_lmarkEdgeS := f_lmarkEdgeS BIG
noncomputable def p_lmarkEdgeS : TSp := ⟨s_lmarkEdgeS, [[.sl [.i .i64, .i .i64]], [.i .i64]], [.i .i64], [.sl [.i .i64, .i .i64]], Ou.j (.mt 0 0 0), g_lmarkEdgeS⟩
theorem k_lmarkEdgeS : chkW PG E_lmarkEdgeS 43 s_lmarkEdgeS (c_lmarkEdgeS.ht 27) (.mt 0 0 0) = some (c_lmarkEdgeS.wc E_lmarkEdgeS, [4]) := by kernel_rfl
theorem ok_lmarkEdgeS : p_lmarkEdgeS.Ok PG 43 := mkOk (env_nil PG) k_lmarkEdgeS (by kernel_rfl)
theorem e_lmarkEdgeS (n : Nat) (a0 : List (Int × Int)) (a1 : Int) : f_lmarkEdgeS n (a0, a1) =
  Option.bind (loopT n (X := (List (Int × Int)) × Int × Int) (B := (List (Int × Int)) × Int) (fun self1 x0 =>
    bif decide (x0.2.2 < (x0.1.length : Int)) then
     bnd x0.1.length x0.2.2 fun n2 =>
     Option.bind x0.1[n2]? fun y3 =>
     bnd (x0.1.set n2 (x0.2.1, y3.2)).length x0.2.2 fun n4 =>
     Option.bind (x0.1.set n2 (x0.2.1, y3.2))[n4]? fun y5 =>
     self1 ((x0.1.set n2 (x0.2.1, y3.2)).set n4 (y5.1, IntKind.wrap .i64 (x0.2.1 + (1 : Int))), IntKind.wrap .i64 ((IntKind.wrap .i64 (x0.2.1 + (1 : Int))) + (1 : Int)), IntKind.wrap .i64 (x0.2.2 + (1 : Int)))
    else some (x0.1, x0.2.1)) (a0, a1, (0 : Int)) : Option ((List (Int × Int)) × Int)) fun x6 =>
  some (x6.2, x6.1) := by kernel_rfl
/- laws.markGraph -/
def c_lmarkGraph : TC :=
 (.seq (.rg [⟨false, [], [], .det 2 (.a (.t 0)), [2, 0], (some 2), none⟩,
   o1 4 (.lit [.i .i64] [.int .i64 (0)])])
 (.seq (.rg [o1 5 (.idx .nil),
   o1 6 (.load 2 [] 1 (.t 5) 1 true),
   o1 7 (.copy 1),
   ⟨false, [], [], .call 2 43 [.t 6, .t 7] (.mt 2 [] 1 6 0), [8, 2, 6], (some 8), none⟩,
   o1 1 (.copy 8)])
 (.seq (.rg [o1 9 (.copy 1),
   o1 4 (.copy 9)])
 .ret)))
def s_lmarkGraph : Sig := ⟨[.mt true [.d, .sl (.own none) [.d, .d]], .rd false [.d]], (.one false [.d])⟩
noncomputable def E_lmarkGraph : TEnv := envOf [(43, p_lmarkEdgeS)]
noncomputable def f_lmarkGraph (n : Nat) : (Int × List (Int × Int)) × Int → Option ((Int) × Int × List (Int × Int)) := runFn n E_lmarkGraph c_lmarkGraph [[.i .i64, .sl [.i .i64, .i .i64]], [.i .i64]] [.i .i64] [.i .i64, .sl [.i .i64, .i .i64]] [4] (.mt 0 2 0)
noncomputable def g_lmarkGraph := f_lmarkGraph BIG
noncomputable def p_lmarkGraph : TSp := ⟨s_lmarkGraph, [[.i .i64, .sl [.i .i64, .i .i64]], [.i .i64]], [.i .i64], [.i .i64, .sl [.i .i64, .i .i64]], Ou.j (.mt 0 2 0), g_lmarkGraph⟩
theorem k_lmarkGraph : chkW PG E_lmarkGraph 94 s_lmarkGraph (c_lmarkGraph.ht 10) (.mt 0 2 0) = some (c_lmarkGraph.wc E_lmarkGraph, [4]) := by kernel_rfl
theorem ok_lmarkGraph : p_lmarkGraph.Ok PG 94 := mkOk (env_cons ok_lmarkEdgeS (env_nil PG)) k_lmarkGraph (by kernel_rfl)
theorem e_lmarkGraph (n : Nat) (a0 : Int × List (Int × Int)) (a1 : Int) : f_lmarkGraph n (a0, a1) =
  Option.bind (g_lmarkEdgeS (a0.2, a1)) fun r0 =>
  some (r0.1, (a0.1, r0.2)) := by kernel_rfl
/- laws.heldEdgeS -/
def c_lheldEdgeS : TC :=
 (.seq (.rg [o1 4 (.lit [.i .i64] [.int .i64 (0)])])
 (.seq (.join [⟨1, [.i .i64], false⟩] 1073741810 (some [⟨4, [.i .i64], false⟩]) (.seq (.rg [o1 5 (.lit [.i .i64] [.int .i64 (0)])])
 (.block 0 (.loop [⟨1, [.i .i64], false⟩, ⟨5, [.i .i64], false⟩] 1073741810
  (.seq (.seq (.rg [o1 6 (.copy 5),
    o1 7 (.copy 0),
    o1 8 (.len 7),
    o1 9 (.data (.bin .lss) [.t 6, .t 8])])
  (.cond (.t 9)
   .skip
   (.exit 0)))
  (.seq (.block 1 (.seq (.seq (.rg [o1 12 (.copy 0),
    o1 13 (.copy 5),
    o1 14 (.index 12 (.t 13)),
    o1 15 (.idx (.t 14)),
    o1 16 (.load 12 [(0, 2)] 0 (.t 15) 1 false),
    o1 17 (.copy 1),
    o1 18 (.data (.bin .neq) [.t 16, .t 17])])
  (.cond (.t 18)
   (.seq (.rg [o1 4 (.lit [.i .i64] [.int .i64 (-1)])])
   .ret)
   .skip))
  (.seq (.rg [o1 19 (.copy 1),
    o1 20 (.data (.bin .add) [.t 19, .c (.int .i64 (1))]),
    o1 1 (.copy 20)])
  (.seq (.seq (.rg [o1 21 (.copy 0),
    o1 22 (.copy 5),
    o1 23 (.index 21 (.t 22)),
    o1 24 (.idx (.t 23)),
    o1 25 (.load 21 [(0, 2)] 1 (.t 24) 1 false),
    o1 26 (.copy 1),
    o1 27 (.data (.bin .neq) [.t 25, .t 26])])
  (.cond (.t 27)
   (.seq (.rg [o1 4 (.lit [.i .i64] [.int .i64 (-1)])])
   .ret)
   .skip))
  (.rg [o1 28 (.copy 1),
    o1 29 (.data (.bin .add) [.t 28, .c (.int .i64 (1))]),
    o1 1 (.copy 29)])))))
  (.rg [o1 10 (.copy 5),
    o1 11 (.data (.bin .add) [.t 10, .c (.int .i64 (1))]),
    o1 5 (.copy 11)])))))))
 (.seq (.rg [o1 30 (.copy 1),
   o1 4 (.copy 30)])
 .ret)))
def s_lheldEdgeS : Sig := ⟨[.rd false [.sl (.own none) [.d, .d]], .rd false [.d]], (.one false [.d])⟩
noncomputable def E_lheldEdgeS : TEnv := envOf []
noncomputable def f_lheldEdgeS (n : Nat) : (List (Int × Int)) × Int → Option ((Int) × Unit) := runFn n E_lheldEdgeS c_lheldEdgeS [[.sl [.i .i64, .i .i64]], [.i .i64]] [.i .i64] [] [4] .no
noncomputable def g_lheldEdgeS := f_lheldEdgeS BIG
noncomputable def p_lheldEdgeS : TSp := ⟨s_lheldEdgeS, [[.sl [.i .i64, .i .i64]], [.i .i64]], [.i .i64], [], Ou.j .no, g_lheldEdgeS⟩
theorem k_lheldEdgeS : chkW PG E_lheldEdgeS 63 s_lheldEdgeS (c_lheldEdgeS.ht 31) .no = some (c_lheldEdgeS.wc E_lheldEdgeS, [4]) := by kernel_rfl
theorem ok_lheldEdgeS : p_lheldEdgeS.Ok PG 63 := mkOk (env_nil PG) k_lheldEdgeS (by kernel_rfl)
theorem e_lheldEdgeS (n : Nat) (a0 : List (Int × Int)) (a1 : Int) : f_lheldEdgeS n (a0, a1) =
  Option.bind (loopT n (X := Int × Int) (B := (Int) ⊕ (Int)) (fun self1 x0 =>
    bif decide (x0.2 < (a0.length : Int)) then
     bnd a0.length x0.2 fun n2 =>
     Option.bind a0[n2]? fun y3 =>
     bif !decide (y3.1 = x0.1) then
      some (Sum.inr (-1 : Int))
     else bnd a0.length x0.2 fun n4 =>
     Option.bind a0[n4]? fun y5 =>
     bif !decide (y5.2 = (IntKind.wrap .i64 (x0.1 + (1 : Int)))) then
      some (Sum.inr (-1 : Int))
     else self1 (IntKind.wrap .i64 ((IntKind.wrap .i64 (x0.1 + (1 : Int))) + (1 : Int)), IntKind.wrap .i64 (x0.2 + (1 : Int)))
    else some (Sum.inl x0.1)) (a1, (0 : Int)) : Option ((Int) ⊕ (Int))) fun y => match y with
  | .inl x6 =>
   some (x6, ())
  | .inr x6 =>
   some (x6, ()) := by kernel_rfl
/- laws.heldGraph -/
def c_lheldGraph : TC :=
 (.seq (.rg [o1 2 (.a (.t 0)),
   o1 4 (.lit [.i .i64] [.int .i64 (0)])])
 (.seq (.rg [o1 5 (.idx .nil),
   o1 6 (.load 2 [] 1 (.t 5) 1 false),
   o1 7 (.copy 1),
   o3 8 63 [.t 6, .t 7],
   o1 1 (.copy 8)])
 (.seq (.seq (.rg [o1 9 (.copy 1),
   o1 10 (.data (.bin .lss) [.t 9, .c (.int .i64 (0))])])
 (.cond (.t 10)
  (.seq (.rg [o1 4 (.lit [.i .i64] [.int .i64 (-1)])])
  .ret)
  .skip))
 (.seq (.rg [o1 11 (.copy 1),
   o1 4 (.copy 11)])
 .ret))))
def s_lheldGraph : Sig := ⟨[.rd true [.d, .sl (.own none) [.d, .d]], .rd false [.d]], (.one false [.d])⟩
noncomputable def E_lheldGraph : TEnv := envOf [(63, p_lheldEdgeS)]
noncomputable def f_lheldGraph (n : Nat) : (Int × List (Int × Int)) × Int → Option ((Int) × Unit) := runFn n E_lheldGraph c_lheldGraph [[.i .i64, .sl [.i .i64, .i .i64]], [.i .i64]] [.i .i64] [] [4] .no
noncomputable def g_lheldGraph := f_lheldGraph BIG
noncomputable def p_lheldGraph : TSp := ⟨s_lheldGraph, [[.i .i64, .sl [.i .i64, .i .i64]], [.i .i64]], [.i .i64], [], Ou.j .no, g_lheldGraph⟩
theorem k_lheldGraph : chkW PG E_lheldGraph 95 s_lheldGraph (c_lheldGraph.ht 12) .no = some (c_lheldGraph.wc E_lheldGraph, [4]) := by kernel_rfl
theorem ok_lheldGraph : p_lheldGraph.Ok PG 95 := mkOk (env_cons ok_lheldEdgeS (env_nil PG)) k_lheldGraph (by kernel_rfl)
theorem e_lheldGraph (n : Nat) (a0 : Int × List (Int × Int)) (a1 : Int) : f_lheldGraph n (a0, a1) =
  Option.bind (g_lheldEdgeS (a0.2, a1)) fun r0 =>
  bif decide (r0.1 < (0 : Int)) then
   some ((-1 : Int), ())
  else some (r0.1, ()) := by kernel_rfl
/- laws.FnExactModel -/
def c_lFnExactModel : TC :=
 (.seq (.rg [o1 2 (.a (.t 0)),
   o1 3 (.a (.t 1)),
   o1 4 (.lit [.b] [.bool false])])
 (.seq (.rg [o1 5 (.lit [.i .i64] [.int .i64 (1048576)])])
 (.seq (.rg [o1 16 (.load 2 [] 0 .nil 2 false),
   o1 17 (.copy 5),
   o3 18 88 [.t 16, .t 17],
   o1 5 (.copy 18)])
 (.seq (.seq (.rg [o1 19 (.copy 5),
   o1 20 (.data (.bin .lss) [.t 19, .c (.int .i64 (0))])])
 (.cond (.t 20)
  (.seq (.rg [o1 4 (.lit [.b] [.bool true])])
  .ret)
  .skip))
 (.seq (.rg [⟨false, [], [1000000001], .det 1 (.load 2 [] 0 .nil 2 false), [22], (some 22), none⟩,
   ⟨false, [], [1000000001], .call 1 90 [.t 22] .no, [23], (some 23), none⟩,
   ⟨false, [], [1000000001], .det 1 (.load 3 [] 0 .nil 4 false), [24], (some 24), none⟩,
   ⟨false, [], [1000000001], .call 1 91 [.t 24] .no, [25], (some 25), none⟩,
   ⟨false, [], [1000000001], .call 1 89 [.t 23, .t 25] .no, [26], (some 26), none⟩,
   ⟨false, [], [1000000001], .det 2 (.copy 26), [21, 26], (some 21), none⟩,
   ⟨false, [], [1000000001], .det 2 (.ext 21 0 2), [27, 21], (some 27), none⟩,
   ⟨false, [], [1000000001], .det 1 (.ext 21 2 1), [28], (some 28), none⟩,
   ⟨false, [], [], .det 2 (.a (.c [.i .i64, .sl [.i .i64, .i .i64]] [.int .i64 (0), .slice none 0 0])), [6, 1000000001], (some 6), none⟩,
   o4 2 [6, 27] (.store 6 [] 0 .nil (.t 27)),
   o1 7 (.copy 28)])
 (.seq (.rg [o1 29 (.load 2 [] 0 .nil 2 false),
   o3 30 90 [.t 29],
   ⟨false, [], [], .det 2 (.a (.c [.i .i64, .sl [.i .i64, .i .i64]] [.int .i64 (0), .slice none 0 0])), [8, 1000000001], (some 8), none⟩,
   o4 2 [8, 30] (.store 8 [] 0 .nil (.t 30))])
 (.seq (.rg [⟨false, [], [1000000001], .det 1 (.load 8 [] 0 .nil 2 true), [32], (some 32), none⟩,
   ⟨false, [], [1000000001], .det 1 (.load 3 [] 0 .nil 4 false), [33], (some 33), none⟩,
   ⟨false, [], [1000000001], .call 1 91 [.t 33] .no, [34], (some 34), none⟩,
   ⟨false, [], [1000000001], .call 1 92 [.t 32, .t 34] .no, [35], (some 35), none⟩,
   ⟨false, [], [1000000001], .det 2 (.copy 35), [31, 35], (some 31), none⟩,
   ⟨false, [], [1000000001], .det 2 (.ext 31 0 2), [36, 31], (some 36), none⟩,
   ⟨false, [], [1000000001], .det 1 (.ext 31 2 1), [37], (some 37), none⟩,
   ⟨false, [], [], .det 2 (.a (.c [.i .i64, .sl [.i .i64, .i .i64]] [.int .i64 (0), .slice none 0 0])), [9, 1000000001], (some 9), none⟩,
   o4 2 [9, 36] (.store 9 [] 0 .nil (.t 36)),
   o1 10 (.copy 37)])
 (.seq (.seq (.join [⟨46, [.b], false⟩] 140462610448384 none (.rg [o1 38 (.load 9 [] 0 .nil 2 true),
   o1 39 (.load 6 [] 0 .nil 2 true),
   o3 40 93 [.t 38, .t 39],
   o1 41 (.data .not [.t 40]),
   o1 42 (.copy 41),
   o2 43 (.copy 10) 4 false,
   o2 44 (.copy 7) 4 false,
   o2 45 (.data (.bin .neq) [.t 43, .t 44]) 4 false,
   ⟨false, [], [], .pick 42 (.c (.bool true)) (.t 45), [46], (some 46), none⟩]))
 (.cond (.t 46)
  (.seq (.rg [o1 4 (.lit [.b] [.bool false])])
  .ret)
  .skip))
 (.seq (.seq (.rg [o1 47 (.load 8 [] 0 .nil 2 true),
   o1 48 (.load 2 [] 0 .nil 2 false),
   o3 49 90 [.t 48],
   o3 50 93 [.t 47, .t 49],
   o1 51 (.data .not [.t 50])])
 (.cond (.t 51)
  (.seq (.rg [o1 4 (.lit [.b] [.bool false])])
  .ret)
  .skip))
 (.seq (.rg [o1 11 (.lit [.i .i64] [.int .i64 (1)])])
 (.seq (.rg [o1 52 (.load 8 [] 0 .nil 2 true),
   o1 53 (.copy 11),
   ⟨false, [], [], .call 2 94 [.t 52, .t 53] (.mt 8 [] 0 52 0), [54, 8, 32, 47, 52], (some 54), none⟩,
   o1 11 (.copy 54)])
 (.seq (.seq (.join [⟨67, [.b], false⟩] 295111876382333861888 none (.rg [o1 55 (.copy 11),
   o1 56 (.data (.bin .lss) [.t 55, .c (.int .i64 (0))]),
   o1 57 (.copy 56),
   o2 58 (.load 9 [] 0 .nil 2 true) 2 false,
   o2 59 (.load 6 [] 0 .nil 2 true) 2 false,
   ⟨false, [], [], .call 1 93 [.t 58, .t 59] .no, [60], (some 60), some (2, false)⟩,
   o2 61 (.data .not [.t 60]) 2 false,
   ⟨false, [], [], .pick 57 (.c (.bool true)) (.t 61), [62], (some 62), none⟩,
   o1 63 (.copy 62),
   o2 64 (.copy 10) 8 false,
   o2 65 (.copy 7) 8 false,
   o2 66 (.data (.bin .neq) [.t 64, .t 65]) 8 false,
   ⟨false, [], [], .pick 63 (.c (.bool true)) (.t 66), [67], (some 67), none⟩]))
 (.cond (.t 67)
  (.seq (.rg [o1 4 (.lit [.b] [.bool false])])
  .ret)
  .skip))
 (.seq (.rg [o1 12 (.lit [.i .i64] [.int .i64 (1)])])
 (.seq (.rg [o1 68 (.load 9 [] 0 .nil 2 true),
   o1 69 (.copy 12),
   ⟨false, [], [], .call 2 94 [.t 68, .t 69] (.mt 9 [] 0 68 0), [70, 9, 38, 68], (some 70), none⟩,
   o1 12 (.copy 70)])
 (.seq (.rg [o1 13 (.lit [.i .i64] [.int .i64 (1)])])
 (.seq (.rg [o1 71 (.load 9 [] 0 .nil 2 true),
   o1 72 (.copy 13),
   o3 73 95 [.t 71, .t 72],
   o1 13 (.copy 73)])
 (.seq (.seq (.rg [o1 74 (.copy 13),
   o1 75 (.data (.bin .lss) [.t 74, .c (.int .i64 (0))])])
 (.cond (.t 75)
  (.seq (.rg [o1 4 (.lit [.b] [.bool false])])
  .ret)
  .skip))
 (.seq (.seq (.rg [o1 76 (.copy 13),
   o1 77 (.copy 12),
   o1 78 (.data (.bin .neq) [.t 76, .t 77])])
 (.cond (.t 78)
  (.seq (.rg [o1 4 (.lit [.b] [.bool false])])
  .ret)
  .skip))
 (.seq (.rg [⟨false, [], [1000000001], .det 1 (.load 2 [] 0 .nil 2 false), [80], (some 80), none⟩,
   ⟨false, [], [1000000001], .call 1 90 [.t 80] .no, [81], (some 81), none⟩,
   ⟨false, [], [1000000001], .det 1 (.load 3 [] 0 .nil 4 false), [82], (some 82), none⟩,
   ⟨false, [], [1000000001], .call 1 91 [.t 82] .no, [83], (some 83), none⟩,
   ⟨false, [], [1000000001], .call 1 92 [.t 81, .t 83] .no, [84], (some 84), none⟩,
   ⟨false, [], [1000000001], .det 2 (.copy 84), [79, 84], (some 79), none⟩,
   ⟨false, [], [1000000001], .det 2 (.ext 79 0 2), [85, 79], (some 85), none⟩,
   ⟨false, [], [1000000001], .det 1 (.ext 79 2 1), [86], (some 86), none⟩,
   ⟨false, [], [], .det 2 (.a (.c [.i .i64, .sl [.i .i64, .i .i64]] [.int .i64 (0), .slice none 0 0])), [14, 1000000001], (some 14), none⟩,
   o4 2 [14, 85] (.store 14 [] 0 .nil (.t 85)),
   o1 15 (.copy 86)])
 (.seq (.seq (.join [⟨95, [.b], false⟩] 79073420009353665059181559808 none (.rg [o1 87 (.load 14 [] 0 .nil 2 true),
   o1 88 (.load 6 [] 0 .nil 2 true),
   o3 89 93 [.t 87, .t 88],
   o1 90 (.data .not [.t 89]),
   o1 91 (.copy 90),
   o2 92 (.copy 15) 4 false,
   o2 93 (.copy 7) 4 false,
   o2 94 (.data (.bin .neq) [.t 92, .t 93]) 4 false,
   ⟨false, [], [], .pick 91 (.c (.bool true)) (.t 94), [95], (some 95), none⟩]))
 (.cond (.t 95)
  (.seq (.rg [o1 4 (.lit [.b] [.bool false])])
  .ret)
  .skip))
 (.seq (.rg [o1 13 (.lit [.i .i64] [.int .i64 (1)])])
 (.seq (.rg [o1 96 (.load 9 [] 0 .nil 2 true),
   o1 97 (.copy 13),
   o3 98 95 [.t 96, .t 97],
   o1 13 (.copy 98)])
 (.seq (.seq (.rg [o1 99 (.copy 13),
   o1 100 (.data (.bin .lss) [.t 99, .c (.int .i64 (0))])])
 (.cond (.t 100)
  (.seq (.rg [o1 4 (.lit [.b] [.bool false])])
  .ret)
  .skip))
 (.seq (.seq (.rg [o1 101 (.copy 13),
   o1 102 (.copy 12),
   o1 103 (.data (.bin .neq) [.t 101, .t 102])])
 (.cond (.t 103)
  (.seq (.rg [o1 4 (.lit [.b] [.bool false])])
  .ret)
  .skip))
 (.seq (.rg [o1 4 (.lit [.b] [.bool true])])
 .ret)))))))))))))))))))))))))
def s_lFnExactModel : Sig := ⟨[.rd true [.d, .sl (.own none) [.d, .d]], .rd true [.d, .d, .d, .d]], (.one false [.d])⟩
noncomputable def E_lFnExactModel : TEnv := envOf [(88, p_lszGraph), (90, p_ltoGraph), (91, p_ltoAsk), (89, p_sModel), (92, p_iModel), (93, p_leqGraph), (94, p_lmarkGraph), (95, p_lheldGraph)]
noncomputable def f_lFnExactModel (n : Nat) : (Int × List (Int × Int)) × (Int × Int × Int × Int) → Option ((Bool) × Unit) := runFn n E_lFnExactModel c_lFnExactModel [[.i .i64, .sl [.i .i64, .i .i64]], [.i .i64, .i .i64, .i .i64, .i .i64]] [.b] [] [4] .no
noncomputable def g_lFnExactModel := f_lFnExactModel BIG
noncomputable def p_lFnExactModel : TSp := ⟨s_lFnExactModel, [[.i .i64, .sl [.i .i64, .i .i64]], [.i .i64, .i .i64, .i .i64, .i .i64]], [.b], [], Ou.j .no, g_lFnExactModel⟩
theorem k_lFnExactModel : chkW PG E_lFnExactModel 15 s_lFnExactModel (c_lFnExactModel.ht 104) .no = some (c_lFnExactModel.wc E_lFnExactModel, [4]) := by kernel_rfl
theorem ok_lFnExactModel : p_lFnExactModel.Ok PG 15 := mkOk (env_cons ok_lszGraph (env_cons ok_ltoGraph (env_cons ok_ltoAsk (env_cons ok_sModel (env_cons ok_iModel (env_cons ok_leqGraph (env_cons ok_lmarkGraph (env_cons ok_lheldGraph (env_nil PG))))))))) k_lFnExactModel (by kernel_rfl)
theorem e_lFnExactModel (n : Nat) (a0 : Int × List (Int × Int)) (a1 : Int × Int × Int × Int) : f_lFnExactModel n (a0, a1) =
  Option.bind (g_lszGraph (a0, (1048576 : Int))) fun r0 =>
  bif decide (r0.1 < (0 : Int)) then
   some (true, ())
  else Option.bind (g_ltoGraph a0) fun r1 =>
  Option.bind (g_ltoAsk a1) fun r2 =>
  Option.bind (g_sModel (r1.1, r2.1)) fun r3 =>
  Option.bind (g_ltoGraph a0) fun r4 =>
  Option.bind (g_ltoAsk a1) fun r5 =>
  Option.bind (g_iModel (r4.1, r5.1)) fun r6 =>
  Option.bind (Option.bind (g_leqGraph ((r6.1.1, r6.1.2.1), (r3.1.1, r3.1.2.1))) fun r7 =>
   bif !r7.1 then
    some true
   else some (!decide (r6.1.2.2 = r3.1.2.2)) : Option (Bool)) fun x8 =>
  bif x8 then
   some (false, ())
  else Option.bind (g_ltoGraph a0) fun r9 =>
  Option.bind (g_leqGraph (r4.1, r9.1)) fun r10 =>
  bif !r10.1 then
   some (false, ())
  else Option.bind (g_lmarkGraph (r4.1, (1 : Int))) fun r11 =>
  Option.bind (bif decide (r11.1 < (0 : Int)) then
    some true
   else Option.bind (g_leqGraph ((r6.1.1, r6.1.2.1), (r3.1.1, r3.1.2.1))) fun r12 =>
   bif !r12.1 then
    some true
   else some (!decide (r6.1.2.2 = r3.1.2.2)) : Option (Bool)) fun x13 =>
  bif x13 then
   some (false, ())
  else Option.bind (g_lmarkGraph ((r6.1.1, r6.1.2.1), (1 : Int))) fun r14 =>
  Option.bind (g_lheldGraph (r14.2, (1 : Int))) fun r15 =>
  bif decide (r15.1 < (0 : Int)) then
   some (false, ())
  else bif !decide (r15.1 = r14.1) then
   some (false, ())
  else Option.bind (g_ltoGraph a0) fun r16 =>
  Option.bind (g_ltoAsk a1) fun r17 =>
  Option.bind (g_iModel (r16.1, r17.1)) fun r18 =>
  Option.bind (Option.bind (g_leqGraph ((r18.1.1, r18.1.2.1), (r3.1.1, r3.1.2.1))) fun r19 =>
   bif !r19.1 then
    some true
   else some (!decide (r18.1.2.2 = r3.1.2.2)) : Option (Bool)) fun x20 =>
  bif x20 then
   some (false, ())
  else Option.bind (g_lheldGraph (r14.2, (1 : Int))) fun r21 =>
  bif decide (r21.1 < (0 : Int)) then
   some (false, ())
  else bif !decide (r21.1 = r14.1) then
   some (false, ())
  else some (true, ()) := by kernel_rfl
end Go.Fw
