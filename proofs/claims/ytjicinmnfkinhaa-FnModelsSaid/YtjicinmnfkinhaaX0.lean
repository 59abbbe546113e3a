/- The given functions, as what they compute; each is shown to be what the code does. No conditions. -/
import Derived.Test.YtjicinmnfkinhaaG5
import Derived.Test.YtjicinmnfkinhaaProg
set_option linter.unusedVariables false
set_option linter.unusedSimpArgs false
set_option linter.unusedSectionVars false
namespace Go.Fw
noncomputable abbrev PG := Go.Proofs.Try.prog
def o2 (d : Nat) (e : ED) (j : Nat) (b : Bool) : TO := ⟨false, [], [], .det 1 e, [d], some d, some (j, b)⟩
def o3 (d : Nat) (K : FuncId) (gets : List OY) : TO := ⟨false, [], [], .call 1 K gets .no, [d], some d, none⟩
def o4 (n : Nat) (ds : List Nat) (e : ED) : TO := ⟨false, [], [], .det n e, ds, none, none⟩
end Go.Fw
namespace Go.Fw
/- laws.big -/
def c_lbig : TC :=
 (.seq (.rg [o1 2 (.lit [.b] [.bool false])])
 (.seq (.rg [o1 3 (.copy 0),
   o1 4 (.len 3),
   o1 5 (.data (.bin .gtr) [.t 4, .c (.int .i64 (1048576))]),
   o1 2 (.copy 5)])
 .ret))
def s_lbig : Sig := ⟨[.rd false [.sl (.own none) [.d]]], (.one false [.d])⟩
noncomputable def E_lbig : TEnv := envOf []
noncomputable def f_lbig (n : Nat) : List (Int) → Option ((Bool) × Unit) := runFn n E_lbig c_lbig [[.sl [.i .u8]]] [.b] [] [2] .no
noncomputable def g_lbig := f_lbig BIG
noncomputable def p_lbig : TSp := ⟨s_lbig, [[.sl [.i .u8]]], [.b], [], Ou.j .no, g_lbig⟩
theorem k_lbig : chkW PG E_lbig 5 s_lbig (c_lbig.ht 6) .no = some (c_lbig.wc E_lbig, [2]) := by kernel_rfl
theorem ok_lbig : p_lbig.Ok PG 5 := mkOk (env_nil PG) k_lbig (by kernel_rfl)
theorem e_lbig (n : Nat) (a0 : List (Int)) : f_lbig n a0 =
  some (decide ((1048576 : Int) < (a0.length : Int)), ()) := by kernel_rfl
/- spec.l01New -/
def c_sl01New : TC :=
 (.seq (.rg [o1 2 (.nl)])
 (.seq (.rg [o1 5 (.copy 0),
   o1 6 (.len 5),
   o1 7 (.data (.bin .add) [.c (.int .i64 (13501)), .t 6]),
   o1 3 (.copy 7)])
 (.seq (.join [⟨3, [.i .i64], false⟩] 268435224 none (.seq (.rg [o1 4 (.lit [.i .i64] [.int .i64 (0)])])
 (.block 0 (.loop [⟨3, [.i .i64], false⟩, ⟨4, [.i .i64], false⟩] 268435224
  (.seq (.seq (.join [⟨15, [.b], false⟩] 65280 none (.rg [o1 8 (.copy 4),
    o1 9 (.copy 0),
    o1 10 (.len 9),
    o1 11 (.data (.bin .lss) [.t 8, .t 10]),
    o1 12 (.copy 11),
    o2 13 (.copy 4) 4 true,
    o2 14 (.data (.bin .lss) [.t 13, .c (.int .i64 (4000))]) 4 true,
    ⟨false, [], [], .pick 12 (.t 14) (.c (.bool false)), [15], (some 15), none⟩]))
  (.cond (.t 15)
   .skip
   (.exit 0)))
  (.seq (.block 1 (.rg [o1 18 (.copy 3),
    o1 19 (.data (.bin .mul) [.t 18, .c (.int .i64 (131))]),
    o1 20 (.copy 0),
    o1 21 (.copy 4),
    o1 22 (.index 20 (.t 21)),
    o1 23 (.load 20 [(0, 1)] 0 (.t 22) 1 false),
    o1 24 (.data (.conv .i64) [.t 23]),
    o1 25 (.data (.bin .add) [.t 19, .t 24]),
    o1 26 (.data (.bin .add) [.t 25, .c (.int .i64 (7))]),
    o1 27 (.data (.bin .and) [.t 26, .c (.int .i64 (1073741823))]),
    o1 3 (.copy 27)]))
  (.rg [o1 16 (.copy 4),
    o1 17 (.data (.bin .add) [.t 16, .c (.int .i64 (1))]),
    o1 4 (.copy 17)])))))))
 (.seq (.rg [o1 28 (.copy 0),
   o1 29 (.copy 3),
   o1 30 (.build [.sl [.i .u8], .i .i64, .i .i64] [(0, .t 28), (2, .t 29)]),
   o1 31 (.a (.t 30)),
   ⟨true, [], [], .det 2 (.copy 31), [2, 31], (some 2), none⟩])
 .ret))))
def s_sl01New : Sig := ⟨[.rd false [.sl (.own none) [.d]]], (.bx [.sl (.ro [0]) [.d], .d, .d])⟩
noncomputable def E_sl01New : TEnv := envOf []
noncomputable def f_sl01New (n : Nat) : List (Int) → Option ((List (Int) × Int × Int) × Unit) := runFn n E_sl01New c_sl01New [[.sl [.i .u8]]] [.sl [.i .u8], .i .i64, .i .i64] [] [2] .no
noncomputable def g_sl01New := f_sl01New BIG
noncomputable def p_sl01New : TSp := ⟨s_sl01New, [[.sl [.i .u8]]], [.sl [.i .u8], .i .i64, .i .i64], [], Ou.j .no, g_sl01New⟩
theorem k_sl01New : chkW PG E_sl01New 22 s_sl01New (c_sl01New.ht 32) .no = some (c_sl01New.wc E_sl01New, [2]) := by kernel_rfl
theorem ok_sl01New : p_sl01New.Ok PG 22 := mkOk (env_nil PG) k_sl01New (by kernel_rfl)
theorem e_sl01New (n : Nat) (a0 : List (Int)) : f_sl01New n a0 =
  Option.bind (loopT n (X := Int × Int) (B := Int) (fun self1 x0 =>
    Option.bind (bif decide (x0.2 < (a0.length : Int)) then
      some (decide (x0.2 < (4000 : Int)))
     else some false : Option (Bool)) fun x2 =>
    bif x2 then
     bnd a0.length x0.2 fun n3 =>
     Option.bind a0[n3]? fun y4 =>
     self1 (bits .and .i64 (IntKind.wrap .i64 ((IntKind.wrap .i64 ((IntKind.wrap .i64 (x0.1 * (131 : Int))) + (IntKind.wrap .i64 (y4)))) + (7 : Int))) (1073741823 : Int), IntKind.wrap .i64 (x0.2 + (1 : Int)))
    else some x0.1) (IntKind.wrap .i64 ((13501 : Int) + (a0.length : Int)), (0 : Int)) : Option (Int)) fun x5 =>
  some ((a0, (0 : Int), x5), ()) := by kernel_rfl
/- spec.l01Byte -/
def c_sl01Byte : TC :=
 (.seq (.rg [o1 2 (.lit [.i .i64] [.int .i64 (0)])])
 (.seq (.rg [o1 4 (.p0),
   o1 5 (.p0),
   o1 6 (.same 5),
   o1 7 (.idx (.t 6)),
   o1 8 (.load 0 [] 2 (.t 7) 1 false),
   o1 9 (.data (.bin .mul) [.t 8, .c (.int .i64 (6364136223846793005))]),
   o1 10 (.data (.bin .add) [.t 9, .c (.int .i64 (1442695040888963407))]),
   o1 11 (.same 4),
   o1 12 (.idx (.t 11)),
   o4 1 [0] (.store 0 [] 2 (.t 12) (.t 10))])
 (.seq (.rg [o1 13 (.p0),
   o1 18 (.p0),
   o1 14 (.same 13),
   o1 15 (.idx (.t 14)),
   o1 16 (.load 0 [] 2 (.t 15) 1 false),
   o1 17 (.data (.bin .shr) [.t 16, .c (.int .u64 (33))]),
   o1 19 (.same 18),
   o1 20 (.idx (.t 19)),
   o1 21 (.load 0 [] 2 (.t 20) 1 false),
   o1 22 (.data (.bin .shr) [.t 21, .c (.int .u64 (45))]),
   o1 23 (.data (.bin .xor) [.t 17, .t 22]),
   o1 24 (.data (.bin .and) [.t 23, .c (.int .i64 (255))]),
   o1 3 (.copy 24)])
 (.seq (.join [⟨3, [.i .i64], false⟩, ⟨0, [.sl [.i .u8], .i .i64, .i .i64], false⟩] 144115188042301449 none (.seq (.rg [o1 25 (.p0),
   o1 29 (.p0),
   o1 26 (.same 25),
   o1 27 (.idx (.t 26)),
   o1 28 (.load 0 [] 1 (.t 27) 1 false),
   o1 30 (.same 29),
   o1 31 (.idx (.t 30)),
   o1 32 (.load 0 [] 0 (.t 31) 1 false),
   o1 33 (.len 32),
   o1 34 (.data (.bin .lss) [.t 28, .t 33])])
 (.cond (.t 34)
  (.seq (.rg [o1 35 (.copy 3),
    o1 36 (.p0),
    o1 40 (.p0),
    o1 37 (.same 36),
    o1 38 (.idx (.t 37)),
    o1 39 (.load 0 [] 0 (.t 38) 1 false),
    o1 41 (.same 40),
    o1 42 (.idx (.t 41)),
    o1 43 (.load 0 [] 1 (.t 42) 1 false),
    o1 44 (.index 39 (.t 43)),
    o1 45 (.load 39 [(0, 1)] 0 (.t 44) 1 false),
    o1 46 (.data (.conv .i64) [.t 45]),
    o1 47 (.data (.bin .add) [.t 35, .t 46]),
    o1 48 (.data (.bin .and) [.t 47, .c (.int .i64 (255))]),
    o1 3 (.copy 48)])
  (.rg [o1 49 (.p0),
    o1 50 (.p0),
    o1 51 (.same 50),
    o1 52 (.idx (.t 51)),
    o1 53 (.load 0 [] 1 (.t 52) 1 false),
    o1 54 (.data (.bin .add) [.t 53, .c (.int .i64 (1))]),
    o1 55 (.same 49),
    o1 56 (.idx (.t 55)),
    o4 1 [0] (.store 0 [] 1 (.t 56) (.t 54))]))
  .skip)))
 (.seq (.rg [o1 57 (.copy 3),
   o1 2 (.copy 57)])
 .ret)))))
def s_sl01Byte : Sig := ⟨[.mp [.sl (.ro []) [.d], .d, .d]], (.one false [.d])⟩
noncomputable def E_sl01Byte : TEnv := envOf []
noncomputable def f_sl01Byte (n : Nat) : (List (Int) × Int × Int) → Option ((Int) × List (Int) × Int × Int) := runFn n E_sl01Byte c_sl01Byte [[.sl [.i .u8], .i .i64, .i .i64]] [.i .i64] [.sl [.i .u8], .i .i64, .i .i64] [2] (.mp 0)
noncomputable def g_sl01Byte := f_sl01Byte BIG
noncomputable def p_sl01Byte : TSp := ⟨s_sl01Byte, [[.sl [.i .u8], .i .i64, .i .i64]], [.i .i64], [.sl [.i .u8], .i .i64, .i .i64], Ou.j (.mp 0), g_sl01Byte⟩
theorem k_sl01Byte : chkW PG E_sl01Byte 78 s_sl01Byte (c_sl01Byte.ht 58) (.mp 0) = some (c_sl01Byte.wc E_sl01Byte, [2]) := by kernel_rfl
theorem ok_sl01Byte : p_sl01Byte.Ok PG 78 := mkOk (env_nil PG) k_sl01Byte (by kernel_rfl)
theorem e_sl01Byte (n : Nat) (a0 : List (Int) × Int × Int) : f_sl01Byte n a0 =
  bif decide ((33 : Int) < 0) then
   none
  else bif decide ((45 : Int) < 0) then
   none
  else Option.bind (bif decide (a0.2.1 < (a0.1.length : Int)) then
    bnd a0.1.length a0.2.1 fun n0 =>
    Option.bind a0.1[n0]? fun y1 =>
    some (bits .and .i64 (IntKind.wrap .i64 ((bits .and .i64 (bits .xor .i64 (Int.fdiv (IntKind.wrap .i64 ((IntKind.wrap .i64 (a0.2.2 * (6364136223846793005 : Int))) + (1442695040888963407 : Int))) (2 ^ (Nat.min (Int.toNat (33 : Int)) (IntKind.bits .i64)))) (Int.fdiv (IntKind.wrap .i64 ((IntKind.wrap .i64 (a0.2.2 * (6364136223846793005 : Int))) + (1442695040888963407 : Int))) (2 ^ (Nat.min (Int.toNat (45 : Int)) (IntKind.bits .i64))))) (255 : Int)) + (IntKind.wrap .i64 (y1)))) (255 : Int), (a0.1, IntKind.wrap .i64 (a0.2.1 + (1 : Int)), IntKind.wrap .i64 ((IntKind.wrap .i64 (a0.2.2 * (6364136223846793005 : Int))) + (1442695040888963407 : Int))))
   else some (bits .and .i64 (bits .xor .i64 (Int.fdiv (IntKind.wrap .i64 ((IntKind.wrap .i64 (a0.2.2 * (6364136223846793005 : Int))) + (1442695040888963407 : Int))) (2 ^ (Nat.min (Int.toNat (33 : Int)) (IntKind.bits .i64)))) (Int.fdiv (IntKind.wrap .i64 ((IntKind.wrap .i64 (a0.2.2 * (6364136223846793005 : Int))) + (1442695040888963407 : Int))) (2 ^ (Nat.min (Int.toNat (45 : Int)) (IntKind.bits .i64))))) (255 : Int), (a0.1, a0.2.1, IntKind.wrap .i64 ((IntKind.wrap .i64 (a0.2.2 * (6364136223846793005 : Int))) + (1442695040888963407 : Int)))) : Option (Int × (List (Int) × Int × Int))) fun x2 =>
  some (x2.1, x2.2) := by kernel_rfl
/- spec.l01Below -/
def c_sl01Below : TC :=
 (.seq (.rg [o1 4 (.lit [.i .i64] [.int .i64 (0)])])
 (.seq (.seq (.rg [o1 9 (.copy 1),
   o1 10 (.data (.bin .leq) [.t 9, .c (.int .i64 (0))])])
 (.cond (.t 10)
  (.seq (.rg [o1 4 (.lit [.i .i64] [.int .i64 (0)])])
  .ret)
  .skip))
 (.seq (.seq (.rg [o1 11 (.copy 1),
   o1 12 (.data (.bin .leq) [.t 11, .c (.int .i64 (256))])])
 (.cond (.t 12)
  (.seq (.rg [o1 13 (.p0),
    ⟨false, [], [], .call 2 78 [.t 0] (.mp 0), [14, 0], (some 14), none⟩,
    o1 15 (.copy 1),
    o1 16 (.data (.bin .rem) [.t 14, .t 15]),
    o1 4 (.copy 16)])
  .ret)
  .skip))
 (.seq (.rg [o1 17 (.p0),
   ⟨false, [], [], .call 2 78 [.t 0] (.mp 0), [18, 0], (some 18), none⟩,
   o1 5 (.copy 18)])
 (.seq (.rg [o1 19 (.p0),
   ⟨false, [], [], .call 2 78 [.t 0] (.mp 0), [20, 0], (some 20), none⟩,
   o1 6 (.copy 20)])
 (.seq (.rg [o1 21 (.p0),
   ⟨false, [], [], .call 2 78 [.t 0] (.mp 0), [22, 0], (some 22), none⟩,
   o1 7 (.copy 22)])
 (.seq (.rg [o1 23 (.p0),
   ⟨false, [], [], .call 2 78 [.t 0] (.mp 0), [24, 0], (some 24), none⟩,
   o1 8 (.copy 24)])
 (.seq (.rg [o1 25 (.copy 5),
   o1 26 (.data (.bin .mul) [.t 25, .c (.int .i64 (16777216))]),
   o1 27 (.copy 6),
   o1 28 (.data (.bin .mul) [.t 27, .c (.int .i64 (65536))]),
   o1 29 (.data (.bin .add) [.t 26, .t 28]),
   o1 30 (.copy 7),
   o1 31 (.data (.bin .mul) [.t 30, .c (.int .i64 (256))]),
   o1 32 (.data (.bin .add) [.t 29, .t 31]),
   o1 33 (.copy 8),
   o1 34 (.data (.bin .add) [.t 32, .t 33]),
   o1 35 (.copy 1),
   o1 36 (.data (.bin .rem) [.t 34, .t 35]),
   o1 4 (.copy 36)])
 .ret))))))))
def s_sl01Below : Sig := ⟨[.mp [.sl (.ro []) [.d], .d, .d], .rd false [.d]], (.one false [.d])⟩
noncomputable def E_sl01Below : TEnv := envOf [(78, p_sl01Byte)]
noncomputable def f_sl01Below (n : Nat) : (List (Int) × Int × Int) × Int → Option ((Int) × List (Int) × Int × Int) := runFn n E_sl01Below c_sl01Below [[.sl [.i .u8], .i .i64, .i .i64], [.i .i64]] [.i .i64] [.sl [.i .u8], .i .i64, .i .i64] [4] (.mp 0)
noncomputable def g_sl01Below := f_sl01Below BIG
noncomputable def p_sl01Below : TSp := ⟨s_sl01Below, [[.sl [.i .u8], .i .i64, .i .i64], [.i .i64]], [.i .i64], [.sl [.i .u8], .i .i64, .i .i64], Ou.j (.mp 0), g_sl01Below⟩
theorem k_sl01Below : chkW PG E_sl01Below 55 s_sl01Below (c_sl01Below.ht 37) (.mp 0) = some (c_sl01Below.wc E_sl01Below, [4]) := by kernel_rfl
theorem ok_sl01Below : p_sl01Below.Ok PG 55 := mkOk (env_cons ok_sl01Byte (env_nil PG)) k_sl01Below (by kernel_rfl)
theorem e_sl01Below (n : Nat) (a0 : List (Int) × Int × Int) (a1 : Int) : f_sl01Below n (a0, a1) =
  bif decide (a1 ≤ (0 : Int)) then
   some ((0 : Int), a0)
  else bif decide (a1 ≤ (256 : Int)) then
   Option.bind (g_sl01Byte a0) fun r0 =>
   bif decide (a1 = 0) then
    none
   else some (Int.tmod r0.1 a1, r0.2)
  else Option.bind (g_sl01Byte a0) fun r1 =>
  Option.bind (g_sl01Byte r1.2) fun r2 =>
  Option.bind (g_sl01Byte r2.2) fun r3 =>
  Option.bind (g_sl01Byte r3.2) fun r4 =>
  bif decide (a1 = 0) then
   none
  else some (Int.tmod (IntKind.wrap .i64 ((IntKind.wrap .i64 ((IntKind.wrap .i64 ((IntKind.wrap .i64 (r1.1 * (16777216 : Int))) + (IntKind.wrap .i64 (r2.1 * (65536 : Int))))) + (IntKind.wrap .i64 (r3.1 * (256 : Int))))) + r4.1)) a1, r4.2) := by kernel_rfl
/- spec.l05Edge -/
def c_sl05Edge : TC :=
 (.seq (.rg [⟨false, [], [], .det 2 (.a (.c [.i .i64, .i .i64] [.int .i64 (0), .int .i64 (0)])), [4, 1000000005], (some 4), none⟩])
 (.seq (.rg [o1 7 (.p0),
   o1 8 (.copy 1),
   ⟨false, [], [], .call 2 55 [.t 0, .t 8] (.mp 0), [9, 0], (some 9), none⟩,
   o1 5 (.copy 9)])
 (.seq (.rg [o1 10 (.p0),
   o1 11 (.copy 1),
   ⟨false, [], [], .call 2 55 [.t 0, .t 11] (.mp 0), [12, 0], (some 12), none⟩,
   o1 6 (.copy 12)])
 (.seq (.join [⟨6, [.i .i64], false⟩] 1040448 none (.seq (.rg [o1 13 (.copy 5),
   o1 14 (.copy 6),
   o1 15 (.data (.bin .eql) [.t 13, .t 14])])
 (.cond (.t 15)
  (.rg [o1 16 (.copy 5),
    o1 17 (.data (.bin .add) [.t 16, .c (.int .i64 (1))]),
    o1 18 (.copy 1),
    o1 19 (.data (.bin .rem) [.t 17, .t 18]),
    o1 6 (.copy 19)])
  .skip)))
 (.seq (.seq (.rg [o1 20 (.copy 5),
   o1 21 (.copy 6),
   o1 22 (.data (.bin .gtr) [.t 20, .t 21])])
 (.cond (.t 22)
  (.seq (.rg [o1 23 (.copy 6),
    o1 24 (.copy 5),
    o1 25 (.build [.i .i64, .i .i64] [(0, .t 23), (1, .t 24)]),
    o4 1 [4] (.store 4 [] 0 .nil (.t 25))])
  .ret)
  .skip))
 (.seq (.rg [o1 26 (.copy 5),
   o1 27 (.copy 6),
   o1 28 (.build [.i .i64, .i .i64] [(0, .t 26), (1, .t 27)]),
   o4 1 [4] (.store 4 [] 0 .nil (.t 28))])
 .ret))))))
def s_sl05Edge : Sig := ⟨[.mp [.sl (.ro []) [.d], .d, .d], .rd false [.d]], (.one true [.d, .d])⟩
noncomputable def E_sl05Edge : TEnv := envOf [(55, p_sl01Below)]
noncomputable def f_sl05Edge (n : Nat) : (List (Int) × Int × Int) × Int → Option ((Int × Int) × List (Int) × Int × Int) := runFn n E_sl05Edge c_sl05Edge [[.sl [.i .u8], .i .i64, .i .i64], [.i .i64]] [.i .i64, .i .i64] [.sl [.i .u8], .i .i64, .i .i64] [4] (.mp 0)
noncomputable def g_sl05Edge := f_sl05Edge BIG
noncomputable def p_sl05Edge : TSp := ⟨s_sl05Edge, [[.sl [.i .u8], .i .i64, .i .i64], [.i .i64]], [.i .i64, .i .i64], [.sl [.i .u8], .i .i64, .i .i64], Ou.j (.mp 0), g_sl05Edge⟩
theorem k_sl05Edge : chkW PG E_sl05Edge 40 s_sl05Edge (c_sl05Edge.ht 29) (.mp 0) = some (c_sl05Edge.wc E_sl05Edge, [4]) := by kernel_rfl
theorem ok_sl05Edge : p_sl05Edge.Ok PG 40 := mkOk (env_cons ok_sl01Below (env_nil PG)) k_sl05Edge (by kernel_rfl)
theorem e_sl05Edge (n : Nat) (a0 : List (Int) × Int × Int) (a1 : Int) : f_sl05Edge n (a0, a1) =
  Option.bind (g_sl01Below (a0, a1)) fun r0 =>
  Option.bind (g_sl01Below (r0.2, a1)) fun r1 =>
  Option.bind (bif decide (r0.1 = r1.1) then
    bif decide (a1 = 0) then
     none
    else some (Int.tmod (IntKind.wrap .i64 (r0.1 + (1 : Int))) a1)
   else some r1.1 : Option (Int)) fun x2 =>
  bif decide (x2 < r0.1) then
   some ((x2, r0.1), r1.2)
  else some ((r0.1, x2), r1.2) := by kernel_rfl
/- spec.l05Has -/
def c_sl05Has : TC :=
 (.seq (.rg [o1 3 (.a (.t 1)),
   o1 4 (.lit [.b] [.bool false])])
 (.seq (.join [] 262128 (some [⟨4, [.b], false⟩]) (.seq (.rg [o1 5 (.lit [.i .i64] [.int .i64 (0)])])
 (.block 0 (.loop [⟨5, [.i .i64], false⟩] 262128
  (.seq (.seq (.rg [o1 6 (.copy 5),
    o1 7 (.copy 0),
    o1 8 (.len 7),
    o1 9 (.data (.bin .lss) [.t 6, .t 8])])
  (.cond (.t 9)
   .skip
   (.exit 0)))
  (.seq (.block 1 (.seq (.rg [o1 12 (.copy 0),
    o1 13 (.copy 5),
    o1 14 (.index 12 (.t 13)),
    o1 15 (.load 12 [(0, 2)] 0 (.t 14) 2 false),
    o1 16 (.load 3 [] 0 .nil 2 false),
    o1 17 (.eqA [.i, .i] (.t 15) (.t 16) false)])
  (.cond (.t 17)
   (.seq (.rg [o1 4 (.lit [.b] [.bool true])])
   .ret)
   .skip)))
  (.rg [o1 10 (.copy 5),
    o1 11 (.data (.bin .add) [.t 10, .c (.int .i64 (1))]),
    o1 5 (.copy 11)])))))))
 (.seq (.rg [o1 4 (.lit [.b] [.bool false])])
 .ret)))
def s_sl05Has : Sig := ⟨[.rd false [.sl (.own none) [.d, .d]], .rd true [.d, .d]], (.one false [.d])⟩
noncomputable def E_sl05Has : TEnv := envOf []
noncomputable def f_sl05Has (n : Nat) : (List (Int × Int)) × (Int × Int) → Option ((Bool) × Unit) := runFn n E_sl05Has c_sl05Has [[.sl [.i .i64, .i .i64]], [.i .i64, .i .i64]] [.b] [] [4] .no
noncomputable def g_sl05Has := f_sl05Has BIG
noncomputable def p_sl05Has : TSp := ⟨s_sl05Has, [[.sl [.i .i64, .i .i64]], [.i .i64, .i .i64]], [.b], [], Ou.j .no, g_sl05Has⟩
theorem k_sl05Has : chkW PG E_sl05Has 83 s_sl05Has (c_sl05Has.ht 18) .no = some (c_sl05Has.wc E_sl05Has, [4]) := by kernel_rfl
theorem ok_sl05Has : p_sl05Has.Ok PG 83 := mkOk (env_nil PG) k_sl05Has (by kernel_rfl)
theorem e_sl05Has (n : Nat) (a0 : List (Int × Int)) (a1 : Int × Int) : f_sl05Has n (a0, a1) =
  Option.bind (loopT n (X := Int) (B := (Unit) ⊕ (Bool)) (fun self1 x0 =>
    bif decide (x0 < (a0.length : Int)) then
     bnd a0.length x0 fun n2 =>
     Option.bind a0[n2]? fun y3 =>
     bif (decide (y3.1 = a1.1) && (decide (y3.2 = a1.2) && true)) then
      some (Sum.inr true)
     else self1 (IntKind.wrap .i64 (x0 + (1 : Int)))
    else some (Sum.inl ())) (0 : Int) : Option ((Unit) ⊕ (Bool))) fun y => match y with
  | .inl x4 =>
   some (false, ())
  | .inr x4 =>
   some (x4, ()) := by kernel_rfl
/- spec.HasEdge -/
def c_sHasEdge : TC :=
 (.seq (.rg [o1 2 (.a (.t 0)),
   o1 3 (.a (.t 1)),
   o1 4 (.lit [.b] [.bool false])])
 (.seq (.rg [o1 5 (.idx .nil),
   o1 6 (.load 2 [] 1 (.t 5) 1 false),
   o1 7 (.load 3 [] 0 .nil 2 false),
   o3 8 83 [.t 6, .t 7],
   o1 4 (.copy 8)])
 .ret))
def s_sHasEdge : Sig := ⟨[.rd true [.d, .sl (.own none) [.d, .d]], .rd true [.d, .d]], (.one false [.d])⟩
noncomputable def E_sHasEdge : TEnv := envOf [(83, p_sl05Has)]
noncomputable def f_sHasEdge (n : Nat) : (Int × List (Int × Int)) × (Int × Int) → Option ((Bool) × Unit) := runFn n E_sHasEdge c_sHasEdge [[.i .i64, .sl [.i .i64, .i .i64]], [.i .i64, .i .i64]] [.b] [] [4] .no
noncomputable def g_sHasEdge := f_sHasEdge BIG
noncomputable def p_sHasEdge : TSp := ⟨s_sHasEdge, [[.i .i64, .sl [.i .i64, .i .i64]], [.i .i64, .i .i64]], [.b], [], Ou.j .no, g_sHasEdge⟩
theorem k_sHasEdge : chkW PG E_sHasEdge 64 s_sHasEdge (c_sHasEdge.ht 9) .no = some (c_sHasEdge.wc E_sHasEdge, [4]) := by kernel_rfl
theorem ok_sHasEdge : p_sHasEdge.Ok PG 64 := mkOk (env_cons ok_sl05Has (env_nil PG)) k_sHasEdge (by kernel_rfl)
theorem e_sHasEdge (n : Nat) (a0 : Int × List (Int × Int)) (a1 : Int × Int) : f_sHasEdge n (a0, a1) =
  Option.bind (g_sl05Has (a0.2, a1)) fun r0 =>
  some (r0.1, ()) := by kernel_rfl
/- spec.l05Less -/
def c_sl05Less : TC :=
 (.seq (.rg [o1 2 (.a (.t 0)),
   o1 3 (.a (.t 1)),
   o1 4 (.lit [.b] [.bool false])])
 (.seq (.join [⟨4, [.b], false⟩] 16777200 none (.rg [o1 5 (.idx .nil),
   o1 6 (.load 2 [] 0 (.t 5) 1 false),
   o1 7 (.idx .nil),
   o1 8 (.load 3 [] 0 (.t 7) 1 false),
   o1 9 (.data (.bin .lss) [.t 6, .t 8]),
   o1 10 (.copy 9),
   o2 11 (.idx .nil) 5 false,
   o2 12 (.load 2 [] 0 (.t 11) 1 false) 5 false,
   o2 13 (.idx .nil) 5 false,
   o2 14 (.load 3 [] 0 (.t 13) 1 false) 5 false,
   o2 15 (.data (.bin .eql) [.t 12, .t 14]) 5 false,
   o2 16 (.copy 15) 5 false,
   o2 17 (.idx .nil) 11 true,
   o2 18 (.load 2 [] 1 (.t 17) 1 false) 11 true,
   o2 19 (.idx .nil) 11 true,
   o2 20 (.load 3 [] 1 (.t 19) 1 false) 11 true,
   o2 21 (.data (.bin .lss) [.t 18, .t 20]) 11 true,
   ⟨false, [], [], .pick 16 (.t 21) (.c (.bool false)), [22], (some 22), some (5, false)⟩,
   ⟨false, [], [], .pick 10 (.c (.bool true)) (.t 22), [23], (some 23), none⟩,
   o1 4 (.copy 23)]))
 .ret))
def s_sl05Less : Sig := ⟨[.rd true [.d, .d], .rd true [.d, .d]], (.one false [.d])⟩
noncomputable def E_sl05Less : TEnv := envOf []
noncomputable def f_sl05Less (n : Nat) : (Int × Int) × (Int × Int) → Option ((Bool) × Unit) := runFn n E_sl05Less c_sl05Less [[.i .i64, .i .i64], [.i .i64, .i .i64]] [.b] [] [4] .no
noncomputable def g_sl05Less := f_sl05Less BIG
noncomputable def p_sl05Less : TSp := ⟨s_sl05Less, [[.i .i64, .i .i64], [.i .i64, .i .i64]], [.b], [], Ou.j .no, g_sl05Less⟩
theorem k_sl05Less : chkW PG E_sl05Less 67 s_sl05Less (c_sl05Less.ht 24) .no = some (c_sl05Less.wc E_sl05Less, [4]) := by kernel_rfl
theorem ok_sl05Less : p_sl05Less.Ok PG 67 := mkOk (env_nil PG) k_sl05Less (by kernel_rfl)
theorem e_sl05Less (n : Nat) (a0 : Int × Int) (a1 : Int × Int) : f_sl05Less n (a0, a1) =
  Option.bind (bif decide (a0.1 < a1.1) then
    some true
   else bif decide (a0.1 = a1.1) then
    some (decide (a0.2 < a1.2))
   else some false : Option (Bool)) fun x0 =>
  some (x0, ()) := by kernel_rfl
/- spec.l05Put -/
def c_sl05Put : TC :=
 (.seq (.rg [o1 3 (.a (.t 1)),
   o1 4 (.lit [.sl [.i .i64, .i .i64]] [.slice none 0 0])])
 (.seq (.rg [o1 8 (.sli [.i .i64, .i .i64] []),
   ⟨false, [], [], .det 2 (.copy 8), [5, 8], (some 5), none⟩])
 (.seq (.join [⟨5, [.sl [.i .i64, .i .i64]], false⟩] 268435040 none (.seq (.rg [o1 6 (.lit [.i .i64] [.int .i64 (0)])])
 (.block 0 (.loop [⟨5, [.sl [.i .i64, .i .i64]], false⟩, ⟨6, [.i .i64], false⟩] 268435040
  (.seq (.seq (.rg [o1 9 (.copy 6),
    o1 10 (.copy 0),
    o1 11 (.len 10),
    o1 12 (.data (.bin .lss) [.t 9, .t 11])])
  (.cond (.t 12)
   .skip
   (.exit 0)))
  (.seq (.join [⟨5, [.sl [.i .i64, .i .i64]], false⟩] 268402720 none (.block 1 (.seq (.rg [o1 15 (.copy 0),
    o1 16 (.copy 6),
    o1 17 (.index 15 (.t 16)),
    o1 18 (.load 15 [(0, 2)] 0 (.t 17) 2 false),
    o1 19 (.load 3 [] 0 .nil 2 false),
    o3 20 67 [.t 18, .t 19]])
  (.cond (.t 20)
   (.rg [⟨false, [], [], .det 2 (.copy 5), [21, 5], (some 21), none⟩,
     o1 22 (.copy 0),
     o1 23 (.copy 6),
     o1 24 (.index 22 (.t 23)),
     o1 25 (.load 22 [(0, 2)] 0 (.t 24) 2 false),
     o1 26 (.sli [.i .i64, .i .i64] [.t 25]),
     ⟨false, [], [], .det 2 (.app (some 21) 26), [27, 21], (some 27), none⟩,
     ⟨false, [], [], .det 2 (.copy 27), [5, 27], (some 5), none⟩])
   .skip))))
  (.rg [o1 13 (.copy 6),
    o1 14 (.data (.bin .add) [.t 13, .c (.int .i64 (1))]),
    o1 6 (.copy 14)])))))))
 (.seq (.rg [⟨false, [], [], .det 2 (.copy 5), [28, 5], (some 28), none⟩,
   o1 29 (.load 3 [] 0 .nil 2 false),
   o1 30 (.sli [.i .i64, .i .i64] [.t 29]),
   ⟨false, [], [], .det 2 (.app (some 28) 30), [31, 28], (some 31), none⟩,
   ⟨false, [], [], .det 2 (.copy 31), [5, 31], (some 5), none⟩])
 (.seq (.join [⟨5, [.sl [.i .i64, .i .i64]], false⟩] 2251795518718112 none (.seq (.rg [o1 7 (.lit [.i .i64] [.int .i64 (0)])])
 (.block 2 (.loop [⟨5, [.sl [.i .i64, .i .i64]], false⟩, ⟨7, [.i .i64], false⟩] 2251795518718112
  (.seq (.seq (.rg [o1 32 (.copy 7),
    o1 33 (.copy 0),
    o1 34 (.len 33),
    o1 35 (.data (.bin .lss) [.t 32, .t 34])])
  (.cond (.t 35)
   .skip
   (.exit 2)))
  (.seq (.join [⟨5, [.sl [.i .i64, .i .i64]], false⟩] 2251524935778336 none (.block 3 (.seq (.rg [o1 39 (.copy 0),
    o1 40 (.copy 7),
    o1 38 (.load 3 [] 0 .nil 2 false),
    o1 41 (.index 39 (.t 40)),
    o1 42 (.load 39 [(0, 2)] 0 (.t 41) 2 false),
    o3 43 67 [.t 38, .t 42]])
  (.cond (.t 43)
   (.rg [⟨false, [], [], .det 2 (.copy 5), [44, 5], (some 44), none⟩,
     o1 45 (.copy 0),
     o1 46 (.copy 7),
     o1 47 (.index 45 (.t 46)),
     o1 48 (.load 45 [(0, 2)] 0 (.t 47) 2 false),
     o1 49 (.sli [.i .i64, .i .i64] [.t 48]),
     ⟨false, [], [], .det 2 (.app (some 44) 49), [50, 44], (some 50), none⟩,
     ⟨false, [], [], .det 2 (.copy 50), [5, 50], (some 5), none⟩])
   .skip))))
  (.rg [o1 36 (.copy 7),
    o1 37 (.data (.bin .add) [.t 36, .c (.int .i64 (1))]),
    o1 7 (.copy 37)])))))))
 (.seq (.rg [⟨false, [], [], .det 2 (.copy 5), [51, 5], (some 51), none⟩,
   ⟨false, [], [], .det 2 (.copy 51), [4, 51], (some 4), none⟩])
 .ret))))))
def s_sl05Put : Sig := ⟨[.rd false [.sl (.own none) [.d, .d]], .rd true [.d, .d]], (.one false [.sl (.own none) [.d, .d]])⟩
noncomputable def E_sl05Put : TEnv := envOf [(67, p_sl05Less)]
noncomputable def f_sl05Put (n : Nat) : (List (Int × Int)) × (Int × Int) → Option ((List (Int × Int)) × Unit) := runFn n E_sl05Put c_sl05Put [[.sl [.i .i64, .i .i64]], [.i .i64, .i .i64]] [.sl [.i .i64, .i .i64]] [] [4] .no
noncomputable def g_sl05Put := f_sl05Put BIG
noncomputable def p_sl05Put : TSp := ⟨s_sl05Put, [[.sl [.i .i64, .i .i64]], [.i .i64, .i .i64]], [.sl [.i .i64, .i .i64]], [], Ou.j .no, g_sl05Put⟩
theorem k_sl05Put : chkW PG E_sl05Put 65 s_sl05Put (c_sl05Put.ht 52) .no = some (c_sl05Put.wc E_sl05Put, [4]) := by kernel_rfl
theorem ok_sl05Put : p_sl05Put.Ok PG 65 := mkOk (env_cons ok_sl05Less (env_nil PG)) k_sl05Put (by kernel_rfl)
theorem e_sl05Put (n : Nat) (a0 : List (Int × Int)) (a1 : Int × Int) : f_sl05Put n (a0, a1) =
  Option.bind (loopT n (X := (List (Int × Int)) × Int) (B := (List (Int × Int))) (fun self1 x0 =>
    bif decide (x0.2 < (a0.length : Int)) then
     Option.bind (bnd a0.length x0.2 fun n2 =>
      Option.bind a0[n2]? fun y3 =>
      Option.bind (g_sl05Less (y3, a1)) fun r4 =>
      bif r4.1 then
       bnd a0.length x0.2 fun n5 =>
       Option.bind a0[n5]? fun y6 =>
       bif decide (x0.1.length + [y6].length ≤ 4294967296) then
        some (x0.1 ++ [y6])
       else none
      else some x0.1 : Option ((List (Int × Int)))) fun x7 =>
     self1 (x7, IntKind.wrap .i64 (x0.2 + (1 : Int)))
    else some x0.1) ([], (0 : Int)) : Option ((List (Int × Int)))) fun x8 =>
  bif decide (x8.length + [a1].length ≤ 4294967296) then
   Option.bind (loopT n (X := (List (Int × Int)) × Int) (B := (List (Int × Int))) (fun self10 x9 =>
     bif decide (x9.2 < (a0.length : Int)) then
      Option.bind (bnd a0.length x9.2 fun n11 =>
       Option.bind a0[n11]? fun y12 =>
       Option.bind (g_sl05Less (a1, y12)) fun r13 =>
       bif r13.1 then
        bnd a0.length x9.2 fun n14 =>
        Option.bind a0[n14]? fun y15 =>
        bif decide (x9.1.length + [y15].length ≤ 4294967296) then
         some (x9.1 ++ [y15])
        else none
       else some x9.1 : Option ((List (Int × Int)))) fun x16 =>
      self10 (x16, IntKind.wrap .i64 (x9.2 + (1 : Int)))
     else some x9.1) (x8 ++ [a1], (0 : Int)) : Option ((List (Int × Int)))) fun x17 =>
   some (x17, ())
  else none := by kernel_rfl
/- spec.l05Graph -/
def c_sl05Graph : TC :=
 (.seq (.rg [⟨false, [], [], .det 2 (.a (.c [.i .i64, .sl [.i .i64, .i .i64]] [.int .i64 (0), .slice none 0 0])), [2, 1000000003], (some 2), none⟩])
 (.seq (.rg [o1 6 (.p0),
   ⟨false, [], [], .call 2 55 [.t 0, .c [.i .i64] [.int .i64 (11)]] (.mp 0), [7, 0], (some 7), none⟩,
   o1 8 (.data (.bin .add) [.c (.int .i64 (2)), .t 7]),
   o1 9 (.build [.i .i64, .sl [.i .i64, .i .i64]] [(0, .t 8)]),
   ⟨false, [], [], .det 2 (.a (.c [.i .i64, .sl [.i .i64, .i .i64]] [.int .i64 (0), .slice none 0 0])), [3, 1000000004], (some 3), none⟩,
   o4 2 [3, 9] (.store 3 [] 0 .nil (.t 9))])
 (.seq (.join [⟨0, [.sl [.i .u8], .i .i64, .i .i64], false⟩, ⟨3, [.i .i64, .sl [.i .i64, .i .i64]], false⟩] 536869945 none (.seq (.rg [o1 4 (.lit [.i .i64] [.int .i64 (0)])])
 (.block 0 (.loop [⟨0, [.sl [.i .u8], .i .i64, .i .i64], false⟩, ⟨3, [.i .i64, .sl [.i .i64, .i .i64]], false⟩, ⟨4, [.i .i64], false⟩] 536869945
  (.seq (.seq (.rg [o1 10 (.copy 4),
    o1 11 (.p0),
    ⟨false, [], [], .call 2 55 [.t 0, .c [.i .i64] [.int .i64 (16)]] (.mp 0), [12, 0], (some 12), none⟩,
    o1 13 (.data (.bin .lss) [.t 10, .t 12])])
  (.cond (.t 13)
   .skip
   (.exit 0)))
  (.seq (.join [⟨0, [.sl [.i .u8], .i .i64, .i .i64], false⟩, ⟨3, [.i .i64, .sl [.i .i64, .i .i64]], false⟩] 536805417 none (.block 1 (.seq (.rg [o1 16 (.p0),
    o1 17 (.idx .nil),
    o1 18 (.load 3 [] 0 (.t 17) 1 false),
    ⟨false, [], [], .call 2 40 [.t 0, .t 18] (.mp 0), [19, 0], (some 19), none⟩,
    ⟨false, [], [], .det 2 (.a (.c [.i .i64, .i .i64] [.int .i64 (0), .int .i64 (0)])), [5, 1000000006], (some 5), none⟩,
    o4 1 [5] (.store 5 [] 0 .nil (.t 19))])
  (.seq (.rg [o1 20 (.load 3 [] 0 .nil 2 true),
    o1 21 (.load 5 [] 0 .nil 2 false),
    o3 22 64 [.t 20, .t 21],
    o1 23 (.data .not [.t 22])])
  (.cond (.t 23)
   (.rg [o1 24 (.idx .nil),
     o1 25 (.load 3 [] 1 (.t 24) 1 true),
     o1 26 (.load 5 [] 0 .nil 2 false),
     o3 27 65 [.t 25, .t 26],
     o1 28 (.idx .nil),
     o4 2 [3, 27, 20, 25] (.store 3 [] 1 (.t 28) (.t 27))])
   .skip)))))
  (.rg [o1 14 (.copy 4),
    o1 15 (.data (.bin .add) [.t 14, .c (.int .i64 (1))]),
    o1 4 (.copy 15)])))))))
 (.seq (.rg [o1 29 (.load 3 [] 0 .nil 2 true),
   ⟨false, [29], [], .det 2 (.store 2 [] 0 .nil (.t 29)), [2, 29, 29, 3], none, none⟩])
 .ret))))
def s_sl05Graph : Sig := ⟨[.mp [.sl (.ro []) [.d], .d, .d]], (.one true [.d, .sl (.own none) [.d, .d]])⟩
noncomputable def E_sl05Graph : TEnv := envOf [(55, p_sl01Below), (40, p_sl05Edge), (64, p_sHasEdge), (65, p_sl05Put)]
noncomputable def f_sl05Graph (n : Nat) : (List (Int) × Int × Int) → Option ((Int × List (Int × Int)) × List (Int) × Int × Int) := runFn n E_sl05Graph c_sl05Graph [[.sl [.i .u8], .i .i64, .i .i64]] [.i .i64, .sl [.i .i64, .i .i64]] [.sl [.i .u8], .i .i64, .i .i64] [2] (.mp 0)
noncomputable def g_sl05Graph := f_sl05Graph BIG
noncomputable def p_sl05Graph : TSp := ⟨s_sl05Graph, [[.sl [.i .u8], .i .i64, .i .i64]], [.i .i64, .sl [.i .i64, .i .i64]], [.sl [.i .u8], .i .i64, .i .i64], Ou.j (.mp 0), g_sl05Graph⟩
theorem k_sl05Graph : chkW PG E_sl05Graph 54 s_sl05Graph (c_sl05Graph.ht 30) (.mp 0) = some (c_sl05Graph.wc E_sl05Graph, [2]) := by kernel_rfl
theorem ok_sl05Graph : p_sl05Graph.Ok PG 54 := mkOk (env_cons ok_sl01Below (env_cons ok_sl05Edge (env_cons ok_sHasEdge (env_cons ok_sl05Put (env_nil PG))))) k_sl05Graph (by kernel_rfl)
theorem e_sl05Graph (n : Nat) (a0 : List (Int) × Int × Int) : f_sl05Graph n a0 =
  Option.bind (g_sl01Below (a0, (11 : Int))) fun r0 =>
  Option.bind (loopT n (X := (List (Int) × Int × Int) × (Int × List (Int × Int)) × Int) (B := (List (Int) × Int × Int) × (Int × List (Int × Int))) (fun self2 x1 =>
    Option.bind (g_sl01Below (x1.1, (16 : Int))) fun r3 =>
    bif decide (x1.2.2 < r3.1) then
     Option.bind (Option.bind (g_sl05Edge (r3.2, x1.2.1.1)) fun r4 =>
      Option.bind (g_sHasEdge (x1.2.1, r4.1)) fun r5 =>
      bif !r5.1 then
       Option.bind (g_sl05Put (x1.2.1.2, r4.1)) fun r6 =>
       some (r4.2, (x1.2.1.1, r6.1))
      else some (r4.2, x1.2.1) : Option ((List (Int) × Int × Int) × (Int × List (Int × Int)))) fun x7 =>
     self2 (x7.1, x7.2, IntKind.wrap .i64 (x1.2.2 + (1 : Int)))
    else some (r3.2, x1.2.1)) (r0.2, (IntKind.wrap .i64 ((2 : Int) + r0.1), []), (0 : Int)) : Option ((List (Int) × Int × Int) × (Int × List (Int × Int)))) fun x8 =>
  some (x8.2, x8.1) := by kernel_rfl
/- spec.l01PickInt -/
def c_sl01PickInt : TC :=
 (.seq (.rg [o1 4 (.lit [.i .i64] [.int .i64 (0)])])
 (.seq (.rg [o1 5 (.copy 1),
   o1 6 (.p0),
   o1 7 (.copy 1),
   o1 8 (.len 7),
   ⟨false, [], [], .call 2 55 [.t 0, .t 8] (.mp 0), [9, 0], (some 9), none⟩,
   o1 10 (.index 5 (.t 9)),
   o1 11 (.load 5 [(0, 1)] 0 (.t 10) 1 false),
   o1 4 (.copy 11)])
 .ret))
def s_sl01PickInt : Sig := ⟨[.mp [.sl (.ro []) [.d], .d, .d], .rd false [.sl (.own none) [.d]]], (.one false [.d])⟩
noncomputable def E_sl01PickInt : TEnv := envOf [(55, p_sl01Below)]
noncomputable def f_sl01PickInt (n : Nat) : (List (Int) × Int × Int) × List (Int) → Option ((Int) × List (Int) × Int × Int) := runFn n E_sl01PickInt c_sl01PickInt [[.sl [.i .u8], .i .i64, .i .i64], [.sl [.i .i64]]] [.i .i64] [.sl [.i .u8], .i .i64, .i .i64] [4] (.mp 0)
noncomputable def g_sl01PickInt := f_sl01PickInt BIG
noncomputable def p_sl01PickInt : TSp := ⟨s_sl01PickInt, [[.sl [.i .u8], .i .i64, .i .i64], [.sl [.i .i64]]], [.i .i64], [.sl [.i .u8], .i .i64, .i .i64], Ou.j (.mp 0), g_sl01PickInt⟩
theorem k_sl01PickInt : chkW PG E_sl01PickInt 56 s_sl01PickInt (c_sl01PickInt.ht 12) (.mp 0) = some (c_sl01PickInt.wc E_sl01PickInt, [4]) := by kernel_rfl
theorem ok_sl01PickInt : p_sl01PickInt.Ok PG 56 := mkOk (env_cons ok_sl01Below (env_nil PG)) k_sl01PickInt (by kernel_rfl)
theorem e_sl01PickInt (n : Nat) (a0 : List (Int) × Int × Int) (a1 : List (Int)) : f_sl01PickInt n (a0, a1) =
  Option.bind (g_sl01Below (a0, (a1.length : Int))) fun r0 =>
  bnd a1.length r0.1 fun n1 =>
  Option.bind a1[n1]? fun y2 =>
  some (y2, r0.2) := by kernel_rfl
/- spec.l01Once -/
def c_sl01Once : TC :=
 (.seq (.rg [o1 4 (.lit [.b] [.bool false])])
 (.seq (.rg [o1 5 (.p0),
   o1 6 (.copy 1),
   ⟨false, [], [], .call 2 55 [.t 0, .t 6] (.mp 0), [7, 0], (some 7), none⟩,
   o1 8 (.data (.bin .eql) [.t 7, .c (.int .i64 (0))]),
   o1 4 (.copy 8)])
 .ret))
def s_sl01Once : Sig := ⟨[.mp [.sl (.ro []) [.d], .d, .d], .rd false [.d]], (.one false [.d])⟩
noncomputable def E_sl01Once : TEnv := envOf [(55, p_sl01Below)]
noncomputable def f_sl01Once (n : Nat) : (List (Int) × Int × Int) × Int → Option ((Bool) × List (Int) × Int × Int) := runFn n E_sl01Once c_sl01Once [[.sl [.i .u8], .i .i64, .i .i64], [.i .i64]] [.b] [.sl [.i .u8], .i .i64, .i .i64] [4] (.mp 0)
noncomputable def g_sl01Once := f_sl01Once BIG
noncomputable def p_sl01Once : TSp := ⟨s_sl01Once, [[.sl [.i .u8], .i .i64, .i .i64], [.i .i64]], [.b], [.sl [.i .u8], .i .i64, .i .i64], Ou.j (.mp 0), g_sl01Once⟩
theorem k_sl01Once : chkW PG E_sl01Once 26 s_sl01Once (c_sl01Once.ht 9) (.mp 0) = some (c_sl01Once.wc E_sl01Once, [4]) := by kernel_rfl
theorem ok_sl01Once : p_sl01Once.Ok PG 26 := mkOk (env_cons ok_sl01Below (env_nil PG)) k_sl01Once (by kernel_rfl)
theorem e_sl01Once (n : Nat) (a0 : List (Int) × Int × Int) (a1 : Int) : f_sl01Once n (a0, a1) =
  Option.bind (g_sl01Below (a0, a1)) fun r0 =>
  some (decide (r0.1 = (0 : Int)), r0.2) := by kernel_rfl
/- spec.l05AnyEdge -/
def c_sl05AnyEdge : TC :=
 (.seq (.rg [o1 3 (.a (.t 1)),
   ⟨false, [], [], .det 2 (.a (.c [.i .i64, .i .i64] [.int .i64 (0), .int .i64 (0)])), [4, 1000000005], (some 4), none⟩])
 (.seq (.seq (.join [⟨0, [.sl [.i .u8], .i .i64, .i .i64], false⟩, ⟨12, [.b], false⟩] 8161 none (.rg [o1 5 (.idx .nil),
   o1 6 (.load 3 [] 1 (.t 5) 1 false),
   o1 7 (.len 6),
   o1 8 (.data (.bin .gtr) [.t 7, .c (.int .i64 (0))]),
   o1 9 (.copy 8),
   o2 10 (.p0) 4 true,
   ⟨false, [], [], .call 2 26 [.t 0, .c [.i .i64] [.int .i64 (2)]] (.mp 0), [11, 0], (some 11), some (4, true)⟩,
   ⟨false, [], [], .pick 9 (.t 11) (.c (.bool false)), [12], (some 12), none⟩]))
 (.cond (.t 12)
  (.seq (.rg [o1 15 (.p0),
    ⟨false, [], [0], .det 1 (.idx .nil), [13], (some 13), none⟩,
    ⟨false, [], [0], .det 1 (.load 3 [] 1 (.t 13) 1 false), [14], (some 14), none⟩,
    o1 16 (.idx .nil),
    o1 17 (.load 3 [] 1 (.t 16) 1 false),
    o1 18 (.len 17),
    ⟨false, [], [], .call 2 55 [.t 0, .t 18] (.mp 0), [19, 0], (some 19), none⟩,
    o1 20 (.index 14 (.t 19)),
    o1 21 (.load 14 [(0, 2)] 0 (.t 20) 2 false),
    o4 1 [4] (.store 4 [] 0 .nil (.t 21))])
  .ret)
  .skip))
 (.seq (.seq (.rg [o1 22 (.p0),
   ⟨false, [], [], .call 2 26 [.t 0, .c [.i .i64] [.int .i64 (12)]] (.mp 0), [23, 0], (some 23), none⟩])
 (.cond (.t 23)
  (.seq (.rg [o1 24 (.p0),
    ⟨false, [], [], .det 6 (.sli [.i .i64] [.c [.i .i64] [.int .i64 (-1)], .c [.i .i64] [.int .i64 (0)], .c [.i .i64] [.int .i64 (5)], .c [.i .i64] [.int .i64 (11)], .c [.i .i64] [.int .i64 (12)]]), [25, 1000000001, 1000000002, 1000000003, 1000000004, 1000000005], (some 25), none⟩,
    ⟨false, [], [], .call 2 56 [.t 0, .t 25] (.mp 0), [26, 0], (some 26), none⟩,
    o1 27 (.p0),
    ⟨false, [], [], .det 5 (.sli [.i .i64] [.c [.i .i64] [.int .i64 (0)], .c [.i .i64] [.int .i64 (5)], .c [.i .i64] [.int .i64 (11)], .c [.i .i64] [.int .i64 (12)]]), [28, 1000000001, 1000000002, 1000000003, 1000000004], (some 28), none⟩,
    ⟨false, [], [], .call 2 56 [.t 0, .t 28] (.mp 0), [29, 0], (some 29), none⟩,
    o1 30 (.build [.i .i64, .i .i64] [(0, .t 26), (1, .t 29)]),
    o4 1 [4] (.store 4 [] 0 .nil (.t 30))])
  .ret)
  .skip))
 (.seq (.rg [o1 31 (.p0),
   ⟨false, [], [], .call 2 40 [.t 0, .c [.i .i64] [.int .i64 (6)]] (.mp 0), [32, 0], (some 32), none⟩,
   o4 1 [4] (.store 4 [] 0 .nil (.t 32))])
 .ret))))
def s_sl05AnyEdge : Sig := ⟨[.mp [.sl (.ro []) [.d], .d, .d], .rb true [.d, .sl (.own none) [.d, .d]]], (.one true [.d, .d])⟩
noncomputable def E_sl05AnyEdge : TEnv := envOf [(26, p_sl01Once), (55, p_sl01Below), (56, p_sl01PickInt), (40, p_sl05Edge)]
noncomputable def f_sl05AnyEdge (n : Nat) : (List (Int) × Int × Int) × (Int × List (Int × Int)) → Option ((Int × Int) × List (Int) × Int × Int) := runFn n E_sl05AnyEdge c_sl05AnyEdge [[.sl [.i .u8], .i .i64, .i .i64], [.i .i64, .sl [.i .i64, .i .i64]]] [.i .i64, .i .i64] [.sl [.i .u8], .i .i64, .i .i64] [4] (.mp 0)
noncomputable def g_sl05AnyEdge := f_sl05AnyEdge BIG
noncomputable def p_sl05AnyEdge : TSp := ⟨s_sl05AnyEdge, [[.sl [.i .u8], .i .i64, .i .i64], [.i .i64, .sl [.i .i64, .i .i64]]], [.i .i64, .i .i64], [.sl [.i .u8], .i .i64, .i .i64], Ou.j (.mp 0), g_sl05AnyEdge⟩
theorem k_sl05AnyEdge : chkW PG E_sl05AnyEdge 57 s_sl05AnyEdge (c_sl05AnyEdge.ht 33) (.mp 0) = some (c_sl05AnyEdge.wc E_sl05AnyEdge, [4]) := by kernel_rfl
theorem ok_sl05AnyEdge : p_sl05AnyEdge.Ok PG 57 := mkOk (env_cons ok_sl01Once (env_cons ok_sl01Below (env_cons ok_sl01PickInt (env_cons ok_sl05Edge (env_nil PG))))) k_sl05AnyEdge (by kernel_rfl)
theorem e_sl05AnyEdge (n : Nat) (a0 : List (Int) × Int × Int) (a1 : Int × List (Int × Int)) : f_sl05AnyEdge n (a0, a1) =
  Option.bind (bif decide ((0 : Int) < (a1.2.length : Int)) then
    Option.bind (g_sl01Once (a0, (2 : Int))) fun r0 =>
    some (r0.2, r0.1)
   else some (a0, false) : Option ((List (Int) × Int × Int) × Bool)) fun x1 =>
  bif x1.2 then
   Option.bind (g_sl01Below (x1.1, (a1.2.length : Int))) fun r2 =>
   bnd a1.2.length r2.1 fun n3 =>
   Option.bind a1.2[n3]? fun y4 =>
   some (y4, r2.2)
  else Option.bind (g_sl01Once (x1.1, (12 : Int))) fun r5 =>
  bif r5.1 then
   Option.bind (g_sl01PickInt (r5.2, [(-1 : Int), (0 : Int), (5 : Int), (11 : Int), (12 : Int)])) fun r6 =>
   Option.bind (g_sl01PickInt (r6.2, [(0 : Int), (5 : Int), (11 : Int), (12 : Int)])) fun r7 =>
   some ((r6.1, r7.1), r7.2)
  else Option.bind (g_sl05Edge (r5.2, (6 : Int))) fun r8 =>
  some (r8.1, r8.2) := by kernel_rfl
/- spec.l05AnyGraph -/
def c_sl05AnyGraph : TC :=
 (.seq (.rg [⟨false, [], [], .det 2 (.a (.c [.i .i64, .sl [.i .i64, .i .i64]] [.int .i64 (0), .slice none 0 0])), [2, 1000000003], (some 2), none⟩])
 (.seq (.rg [o1 6 (.p0),
   ⟨false, [], [], .call 2 54 [.t 0] (.mp 0), [7, 0], (some 7), none⟩,
   ⟨false, [], [], .det 2 (.a (.c [.i .i64, .sl [.i .i64, .i .i64]] [.int .i64 (0), .slice none 0 0])), [3, 1000000004], (some 3), none⟩,
   o4 2 [3, 7] (.store 3 [] 0 .nil (.t 7))])
 (.seq (.join [⟨0, [.sl [.i .u8], .i .i64, .i .i64], false⟩, ⟨3, [.i .i64, .sl [.i .i64, .i .i64]], false⟩] 1125899906842425 none (.seq (.rg [o1 8 (.p0),
   ⟨false, [], [], .call 2 55 [.t 0, .c [.i .i64] [.int .i64 (20)]] (.mp 0), [9, 0], (some 9), none⟩])
 (.block 0 (.seq (.rg [o1 11 (.data (.bin .eql) [.t 9, .c (.int .i64 (0))]),
   o1 10 (.copy 11)])
 (.cond (.t 10)
  (.rg [o1 12 (.p0),
    ⟨false, [], [], .det 7 (.sli [.i .i64] [.c [.i .i64] [.int .i64 (-1)], .c [.i .i64] [.int .i64 (0)], .c [.i .i64] [.int .i64 (1)], .c [.i .i64] [.int .i64 (2)], .c [.i .i64] [.int .i64 (12)], .c [.i .i64] [.int .i64 (13)]]), [13, 1000000001, 1000000002, 1000000003, 1000000004, 1000000005, 1000000006], (some 13), none⟩,
    ⟨false, [], [], .call 2 56 [.t 0, .t 13] (.mp 0), [14, 0], (some 14), none⟩,
    o1 15 (.idx .nil),
    o4 1 [3] (.store 3 [] 0 (.t 15) (.t 14))])
  (.seq (.rg [o1 17 (.data (.bin .eql) [.t 9, .c (.int .i64 (1))]),
    o1 16 (.copy 17)])
  (.cond (.t 16)
   (.rg [o1 20 (.p0),
     ⟨false, [], [0], .det 1 (.idx .nil), [18], (some 18), none⟩,
     ⟨false, [], [0], .det 1 (.load 3 [] 1 (.t 18) 1 true), [19], (some 19), none⟩,
     o1 21 (.load 3 [] 0 .nil 2 true),
     ⟨false, [], [], .call 2 57 [.t 0, .t 21] (.mp 0), [22, 0], (some 22), none⟩,
     o1 23 (.sli [.i .i64, .i .i64] [.t 22]),
     ⟨false, [19], [], .det 2 (.app (some 19) 23), [24, 19, 19, 3, 21], (some 24), none⟩,
     o1 25 (.idx .nil),
     o4 2 [3, 24, 21, 19] (.store 3 [] 1 (.t 25) (.t 24))])
   (.seq (.rg [o1 27 (.data (.bin .eql) [.t 9, .c (.int .i64 (2))]),
     o1 26 (.copy 27)])
   (.cond (.t 26)
    (.seq (.rg [⟨false, [], [], .det 2 (.build [.i .i64, .sl [.i .i64, .i .i64]] [(0, .c [.i .i64] [.int .i64 (12)])]), [28, 1000000001], (some 28), none⟩,
      o4 2 [3, 28] (.store 3 [] 0 .nil (.t 28))])
    (.seq (.rg [o1 4 (.lit [.i .i64] [.int .i64 (0)])])
    (.block 1 (.loop [⟨0, [.sl [.i .u8], .i .i64, .i .i64], false⟩, ⟨3, [.i .i64, .sl [.i .i64, .i .i64]], false⟩, ⟨4, [.i .i64], false⟩] 1125899369971769
     (.seq (.seq (.rg [o1 29 (.copy 4),
       o1 30 (.data (.bin .lss) [.t 29, .c (.int .i64 (12))])])
     (.cond (.t 30)
      .skip
      (.exit 1)))
     (.seq (.join [⟨0, [.sl [.i .u8], .i .i64, .i .i64], false⟩, ⟨3, [.i .i64, .sl [.i .i64, .i .i64]], false⟩] 1125891316908073 none (.block 2 (.seq (.rg [o1 33 (.copy 4),
       o1 34 (.data (.bin .add) [.t 33, .c (.int .i64 (1))]),
       o1 5 (.copy 34)])
     (.block 3 (.loop [⟨0, [.sl [.i .u8], .i .i64, .i .i64], false⟩, ⟨3, [.i .i64, .sl [.i .i64, .i .i64]], false⟩, ⟨5, [.i .i64], false⟩] 1125865547104297
      (.seq (.seq (.rg [o1 35 (.copy 5),
        o1 36 (.data (.bin .lss) [.t 35, .c (.int .i64 (12))])])
      (.cond (.t 36)
       .skip
       (.exit 3)))
      (.seq (.join [⟨0, [.sl [.i .u8], .i .i64, .i .i64], false⟩, ⟨3, [.i .i64, .sl [.i .i64, .i .i64]], false⟩] 1125350151028745 none (.block 4 (.seq (.rg [o1 39 (.p0),
        ⟨false, [], [], .call 2 26 [.t 0, .c [.i .i64] [.int .i64 (30)]] (.mp 0), [40, 0], (some 40), none⟩,
        o1 41 (.data .not [.t 40])])
      (.cond (.t 41)
       (.rg [o1 42 (.idx .nil),
         o1 43 (.load 3 [] 1 (.t 42) 1 true),
         o1 44 (.copy 4),
         o1 45 (.copy 5),
         o1 46 (.build [.i .i64, .i .i64] [(0, .t 44), (1, .t 45)]),
         o1 47 (.sli [.i .i64, .i .i64] [.t 46]),
         ⟨false, [43], [], .det 2 (.app (some 43) 47), [48, 43, 43, 3], (some 48), none⟩,
         o1 49 (.idx .nil),
         o4 2 [3, 48, 43] (.store 3 [] 1 (.t 49) (.t 48))])
       .skip))))
      (.rg [o1 37 (.copy 5),
        o1 38 (.data (.bin .add) [.t 37, .c (.int .i64 (1))]),
        o1 5 (.copy 38)]))))))))
     (.rg [o1 31 (.copy 4),
       o1 32 (.data (.bin .add) [.t 31, .c (.int .i64 (1))]),
       o1 4 (.copy 32)])))))))
    .skip)))))))))
 (.seq (.rg [o1 50 (.load 3 [] 0 .nil 2 true),
   ⟨false, [50], [], .det 2 (.store 2 [] 0 .nil (.t 50)), [2, 50, 50, 3], none, none⟩])
 .ret))))
def s_sl05AnyGraph : Sig := ⟨[.mp [.sl (.ro []) [.d], .d, .d]], (.one true [.d, .sl (.own none) [.d, .d]])⟩
noncomputable def E_sl05AnyGraph : TEnv := envOf [(54, p_sl05Graph), (55, p_sl01Below), (56, p_sl01PickInt), (57, p_sl05AnyEdge), (26, p_sl01Once)]
noncomputable def f_sl05AnyGraph (n : Nat) : (List (Int) × Int × Int) → Option ((Int × List (Int × Int)) × List (Int) × Int × Int) := runFn n E_sl05AnyGraph c_sl05AnyGraph [[.sl [.i .u8], .i .i64, .i .i64]] [.i .i64, .sl [.i .i64, .i .i64]] [.sl [.i .u8], .i .i64, .i .i64] [2] (.mp 0)
noncomputable def g_sl05AnyGraph := f_sl05AnyGraph BIG
noncomputable def p_sl05AnyGraph : TSp := ⟨s_sl05AnyGraph, [[.sl [.i .u8], .i .i64, .i .i64]], [.i .i64, .sl [.i .i64, .i .i64]], [.sl [.i .u8], .i .i64, .i .i64], Ou.j (.mp 0), g_sl05AnyGraph⟩
theorem k_sl05AnyGraph : chkW PG E_sl05AnyGraph 23 s_sl05AnyGraph (c_sl05AnyGraph.ht 51) (.mp 0) = some (c_sl05AnyGraph.wc E_sl05AnyGraph, [2]) := by kernel_rfl
theorem ok_sl05AnyGraph : p_sl05AnyGraph.Ok PG 23 := mkOk (env_cons ok_sl05Graph (env_cons ok_sl01Below (env_cons ok_sl01PickInt (env_cons ok_sl05AnyEdge (env_cons ok_sl01Once (env_nil PG)))))) k_sl05AnyGraph (by kernel_rfl)
theorem e_sl05AnyGraph (n : Nat) (a0 : List (Int) × Int × Int) : f_sl05AnyGraph n a0 =
  Option.bind (g_sl05Graph a0) fun r0 =>
  Option.bind (Option.bind (g_sl01Below (r0.2, (20 : Int))) fun r1 =>
   bif decide (r1.1 = (0 : Int)) then
    Option.bind (g_sl01PickInt (r1.2, [(-1 : Int), (0 : Int), (1 : Int), (2 : Int), (12 : Int), (13 : Int)])) fun r2 =>
    some (r2.2, (r2.1, r0.1.2))
   else bif decide (r1.1 = (1 : Int)) then
    Option.bind (g_sl05AnyEdge (r1.2, r0.1)) fun r3 =>
    bif decide (r0.1.2.length + [r3.1].length ≤ 4294967296) then
     some (r3.2, (r0.1.1, r0.1.2 ++ [r3.1]))
    else none
   else bif decide (r1.1 = (2 : Int)) then
    loopT n (X := (List (Int) × Int × Int) × (Int × List (Int × Int)) × Int) (B := (List (Int) × Int × Int) × (Int × List (Int × Int))) (fun self5 x4 =>
     bif decide (x4.2.2 < (12 : Int)) then
      Option.bind (loopT n (X := (List (Int) × Int × Int) × (Int × List (Int × Int)) × Int) (B := (List (Int) × Int × Int) × (Int × List (Int × Int))) (fun self7 x6 =>
        bif decide (x6.2.2 < (12 : Int)) then
         Option.bind (Option.bind (g_sl01Once (x6.1, (30 : Int))) fun r8 =>
          bif !r8.1 then
           bif decide (x6.2.1.2.length + ([(x4.2.2, x6.2.2)]).length ≤ 4294967296) then
            some (r8.2, (x6.2.1.1, x6.2.1.2 ++ ([(x4.2.2, x6.2.2)])))
           else none
          else some (r8.2, x6.2.1) : Option ((List (Int) × Int × Int) × (Int × List (Int × Int)))) fun x9 =>
         self7 (x9.1, x9.2, IntKind.wrap .i64 (x6.2.2 + (1 : Int)))
        else some (x6.1, x6.2.1)) (x4.1, x4.2.1, IntKind.wrap .i64 (x4.2.2 + (1 : Int))) : Option ((List (Int) × Int × Int) × (Int × List (Int × Int)))) fun x10 =>
      self5 (x10.1, x10.2, IntKind.wrap .i64 (x4.2.2 + (1 : Int)))
     else some (x4.1, x4.2.1)) (r1.2, ((12 : Int), []), (0 : Int))
   else some (r1.2, r0.1) : Option ((List (Int) × Int × Int) × (Int × List (Int × Int)))) fun x11 =>
  some (x11.2, x11.1) := by kernel_rfl
/- spec.l01In -/
def c_sl01In : TC :=
 (.seq (.rg [o1 6 (.lit [.b] [.bool false])])
 (.seq (.join [⟨6, [.b], false⟩] 32704 none (.rg [o1 7 (.copy 0),
   o1 8 (.copy 1),
   o1 9 (.data (.bin .geq) [.t 7, .t 8]),
   o1 10 (.copy 9),
   o2 11 (.copy 0) 3 true,
   o2 12 (.copy 2) 3 true,
   o2 13 (.data (.bin .leq) [.t 11, .t 12]) 3 true,
   ⟨false, [], [], .pick 10 (.t 13) (.c (.bool false)), [14], (some 14), none⟩,
   o1 6 (.copy 14)]))
 .ret))
def s_sl01In : Sig := ⟨[.rd false [.d], .rd false [.d], .rd false [.d]], (.one false [.d])⟩
noncomputable def E_sl01In : TEnv := envOf []
noncomputable def f_sl01In (n : Nat) : Int × Int × Int → Option ((Bool) × Unit) := runFn n E_sl01In c_sl01In [[.i .i64], [.i .i64], [.i .i64]] [.b] [] [6] .no
noncomputable def g_sl01In := f_sl01In BIG
noncomputable def p_sl01In : TSp := ⟨s_sl01In, [[.i .i64], [.i .i64], [.i .i64]], [.b], [], Ou.j .no, g_sl01In⟩
theorem k_sl01In : chkW PG E_sl01In 24 s_sl01In (c_sl01In.ht 15) .no = some (c_sl01In.wc E_sl01In, [6]) := by kernel_rfl
theorem ok_sl01In : p_sl01In.Ok PG 24 := mkOk (env_nil PG) k_sl01In (by kernel_rfl)
theorem e_sl01In (n : Nat) (a0 : Int) (a1 : Int) (a2 : Int) : f_sl01In n (a0, a1, a2) =
  Option.bind (bif decide (a1 ≤ a0) then
    some (decide (a0 ≤ a2))
   else some false : Option (Bool)) fun x0 =>
  some (x0, ()) := by kernel_rfl
/- spec.l12Ask -/
def c_sl12Ask : TC :=
 (.seq (.rg [⟨false, [], [], .det 2 (.a (.c [.i .i64, .i .i64, .i .i64, .i .i64] [.int .i64 (0), .int .i64 (0), .int .i64 (0), .int .i64 (0)])), [8, 1000000009], (some 8), none⟩])
 (.seq (.rg [o1 10 (.copy 3),
   o1 11 (.p0),
   ⟨false, [], [], .det 10 (.sli [.i .i64] [.c [.i .i64] [.int .i64 (1)], .c [.i .i64] [.int .i64 (1)], .c [.i .i64] [.int .i64 (1)], .c [.i .i64] [.int .i64 (1)], .c [.i .i64] [.int .i64 (2)], .c [.i .i64] [.int .i64 (2)], .c [.i .i64] [.int .i64 (3)], .c [.i .i64] [.int .i64 (3)], .c [.i .i64] [.int .i64 (4)]]), [12, 1000000001, 1000000002, 1000000003, 1000000004, 1000000005, 1000000006, 1000000007, 1000000008, 1000000009], (some 12), none⟩,
   ⟨false, [], [], .call 2 56 [.t 0, .t 12] (.mp 0), [13, 0], (some 13), none⟩,
   o1 14 (.p0),
   o1 15 (.copy 1),
   ⟨false, [], [], .call 2 55 [.t 0, .t 15] (.mp 0), [16, 0], (some 16), none⟩,
   o1 17 (.p0),
   o1 18 (.copy 1),
   ⟨false, [], [], .call 2 55 [.t 0, .t 18] (.mp 0), [19, 0], (some 19), none⟩,
   o1 20 (.build [.i .i64, .i .i64, .i .i64, .i .i64] [(0, .t 10), (1, .t 13), (2, .t 16), (3, .t 19)]),
   ⟨false, [], [], .det 2 (.a (.c [.i .i64, .i .i64, .i .i64, .i .i64] [.int .i64 (0), .int .i64 (0), .int .i64 (0), .int .i64 (0)])), [9, 1000000010], (some 9), none⟩,
   o4 1 [9] (.store 9 [] 0 .nil (.t 20))])
 (.seq (.join [⟨0, [.sl [.i .u8], .i .i64, .i .i64], false⟩, ⟨9, [.i .i64, .i .i64, .i .i64, .i .i64], false⟩] 534774273 none (.seq (.rg [o1 21 (.idx .nil),
   o1 22 (.load 9 [] 1 (.t 21) 1 false),
   o1 23 (.data (.bin .eql) [.t 22, .c (.int .i64 (4))])])
 (.cond (.t 23)
  (.rg [o1 24 (.p0),
    o1 25 (.copy 2),
    ⟨false, [], [], .call 2 55 [.t 0, .t 25] (.mp 0), [26, 0], (some 26), none⟩,
    o1 27 (.data (.bin .add) [.c (.int .i64 (1)), .t 26]),
    o1 28 (.idx .nil),
    o4 1 [9] (.store 9 [] 3 (.t 28) (.t 27))])
  .skip)))
 (.seq (.join [⟨0, [.sl [.i .u8], .i .i64, .i .i64], false⟩, ⟨9, [.i .i64, .i .i64, .i .i64, .i .i64], false⟩] 2251799276814849 none (.seq (.rg [o1 29 (.p0),
   ⟨false, [], [], .call 2 55 [.t 0, .c [.i .i64] [.int .i64 (30)]] (.mp 0), [30, 0], (some 30), none⟩])
 (.block 0 (.seq (.rg [o1 32 (.data (.bin .eql) [.t 30, .c (.int .i64 (0))]),
   o1 31 (.copy 32)])
 (.cond (.t 31)
  (.rg [o1 33 (.p0),
    o1 34 (.copy 1),
    ⟨false, [], [], .det 4 (.sli [.i .i64] [.c [.i .i64] [.int .i64 (-1)], .t 34, .c [.i .i64] [.int .i64 (11)], .c [.i .i64] [.int .i64 (12)]]), [35, 1000000001, 1000000003, 1000000004], (some 35), none⟩,
    ⟨false, [], [], .call 2 56 [.t 0, .t 35] (.mp 0), [36, 0], (some 36), none⟩,
    o1 37 (.idx .nil),
    o4 1 [9] (.store 9 [] 2 (.t 37) (.t 36))])
  (.seq (.rg [o1 39 (.data (.bin .eql) [.t 30, .c (.int .i64 (1))]),
    o1 38 (.copy 39)])
  (.cond (.t 38)
   (.rg [o1 40 (.p0),
     o1 41 (.copy 1),
     ⟨false, [], [], .det 4 (.sli [.i .i64] [.c [.i .i64] [.int .i64 (-1)], .c [.i .i64] [.int .i64 (0)], .t 41, .c [.i .i64] [.int .i64 (12)]]), [42, 1000000001, 1000000002, 1000000004], (some 42), none⟩,
     ⟨false, [], [], .call 2 56 [.t 0, .t 42] (.mp 0), [43, 0], (some 43), none⟩,
     o1 44 (.idx .nil),
     o4 1 [9] (.store 9 [] 3 (.t 44) (.t 43))])
   (.seq (.rg [o1 46 (.data (.bin .eql) [.t 30, .c (.int .i64 (2))]),
     o1 45 (.copy 46)])
   (.cond (.t 45)
    (.rg [o1 47 (.p0),
      ⟨false, [], [], .det 3 (.sli [.i .i64] [.c [.i .i64] [.int .i64 (0)], .c [.i .i64] [.int .i64 (5)]]), [48, 1000000001, 1000000002], (some 48), none⟩,
      ⟨false, [], [], .call 2 56 [.t 0, .t 48] (.mp 0), [49, 0], (some 49), none⟩,
      o1 50 (.idx .nil),
      o4 1 [9] (.store 9 [] 1 (.t 50) (.t 49))])
    .skip)))))))))
 (.seq (.rg [o1 51 (.load 9 [] 0 .nil 4 false),
   o4 1 [8] (.store 8 [] 0 .nil (.t 51))])
 .ret)))))
def s_sl12Ask : Sig := ⟨[.mp [.sl (.ro []) [.d], .d, .d], .rd false [.d], .rd false [.d], .rd false [.d]], (.one true [.d, .d, .d, .d])⟩
noncomputable def E_sl12Ask : TEnv := envOf [(56, p_sl01PickInt), (55, p_sl01Below)]
noncomputable def f_sl12Ask (n : Nat) : (List (Int) × Int × Int) × Int × Int × Int → Option ((Int × Int × Int × Int) × List (Int) × Int × Int) := runFn n E_sl12Ask c_sl12Ask [[.sl [.i .u8], .i .i64, .i .i64], [.i .i64], [.i .i64], [.i .i64]] [.i .i64, .i .i64, .i .i64, .i .i64] [.sl [.i .u8], .i .i64, .i .i64] [8] (.mp 0)
noncomputable def g_sl12Ask := f_sl12Ask BIG
noncomputable def p_sl12Ask : TSp := ⟨s_sl12Ask, [[.sl [.i .u8], .i .i64, .i .i64], [.i .i64], [.i .i64], [.i .i64]], [.i .i64, .i .i64, .i .i64, .i .i64], [.sl [.i .u8], .i .i64, .i .i64], Ou.j (.mp 0), g_sl12Ask⟩
theorem k_sl12Ask : chkW PG E_sl12Ask 25 s_sl12Ask (c_sl12Ask.ht 52) (.mp 0) = some (c_sl12Ask.wc E_sl12Ask, [8]) := by kernel_rfl
theorem ok_sl12Ask : p_sl12Ask.Ok PG 25 := mkOk (env_cons ok_sl01PickInt (env_cons ok_sl01Below (env_nil PG))) k_sl12Ask (by kernel_rfl)
theorem e_sl12Ask (n : Nat) (a0 : List (Int) × Int × Int) (a1 : Int) (a2 : Int) (a3 : Int) : f_sl12Ask n (a0, a1, a2, a3) =
  Option.bind (g_sl01PickInt (a0, [(1 : Int), (1 : Int), (1 : Int), (1 : Int), (2 : Int), (2 : Int), (3 : Int), (3 : Int), (4 : Int)])) fun r0 =>
  Option.bind (g_sl01Below (r0.2, a1)) fun r1 =>
  Option.bind (g_sl01Below (r1.2, a1)) fun r2 =>
  Option.bind (bif decide (r0.1 = (4 : Int)) then
    Option.bind (g_sl01Below (r2.2, a2)) fun r3 =>
    some (r3.2, (a3, r0.1, r1.1, IntKind.wrap .i64 ((1 : Int) + r3.1)))
   else some (r2.2, (a3, r0.1, r1.1, r2.1)) : Option ((List (Int) × Int × Int) × (Int × Int × Int × Int))) fun x4 =>
  Option.bind (Option.bind (g_sl01Below (x4.1, (30 : Int))) fun r5 =>
   bif decide (r5.1 = (0 : Int)) then
    Option.bind (g_sl01PickInt (r5.2, [(-1 : Int), a1, (11 : Int), (12 : Int)])) fun r6 =>
    some (r6.2, (x4.2.1, x4.2.2.1, r6.1, x4.2.2.2.2))
   else bif decide (r5.1 = (1 : Int)) then
    Option.bind (g_sl01PickInt (r5.2, [(-1 : Int), (0 : Int), a1, (12 : Int)])) fun r7 =>
    some (r7.2, (x4.2.1, x4.2.2.1, x4.2.2.2.1, r7.1))
   else bif decide (r5.1 = (2 : Int)) then
    Option.bind (g_sl01PickInt (r5.2, [(0 : Int), (5 : Int)])) fun r8 =>
    some (r8.2, (x4.2.1, r8.1, x4.2.2.2))
   else some (r5.2, x4.2) : Option ((List (Int) × Int × Int) × (Int × Int × Int × Int))) fun x9 =>
  some (x9.2, x9.1) := by kernel_rfl
/- spec.DrawModel -/
def c_sDrawModel : TC :=
 (.seq (.rg [⟨false, [], [], .det 2 (.a (.c [.i .i64, .sl [.i .i64, .i .i64]] [.int .i64 (0), .slice none 0 0])), [2, 1000000003], (some 2), none⟩,
   ⟨false, [], [], .det 2 (.a (.c [.i .i64, .i .i64, .i .i64, .i .i64] [.int .i64 (0), .int .i64 (0), .int .i64 (0), .int .i64 (0)])), [3, 1000000004], (some 3), none⟩])
 (.seq (.rg [o1 8 (.copy 0),
   o3 9 22 [.t 8],
   o1 4 (.p0)])
 (.seq (.rg [o1 10 (.same 4),
   ⟨false, [], [], .call 2 23 [.t 9] (.mp 0), [11, 9], (some 11), none⟩,
   ⟨false, [], [], .det 2 (.a (.c [.i .i64, .sl [.i .i64, .i .i64]] [.int .i64 (0), .slice none 0 0])), [5, 1000000006], (some 5), none⟩,
   o4 2 [5, 11] (.store 5 [] 0 .nil (.t 11))])
 (.seq (.rg [o1 12 (.idx .nil),
   o1 13 (.load 5 [] 0 (.t 12) 1 false),
   o1 6 (.copy 13)])
 (.seq (.join [⟨6, [.i .i64], false⟩] 114752 none (.seq (.rg [o1 14 (.copy 6),
   o3 15 24 [.t 14, .c [.i .i64] [.int .i64 (1)], .c [.i .i64] [.int .i64 (12)]],
   o1 16 (.data .not [.t 15])])
 (.cond (.t 16)
  (.rg [o1 6 (.lit [.i .i64] [.int .i64 (4)])])
  .skip)))
 (.seq (.rg [o1 17 (.same 4),
   o1 18 (.copy 6),
   ⟨false, [], [], .call 2 25 [.t 9, .t 18, .c [.i .i64] [.int .i64 (3)], .c [.i .i64] [.int .i64 (1)]] (.mp 0), [19, 9], (some 19), none⟩,
   ⟨false, [], [], .det 2 (.a (.c [.i .i64, .i .i64, .i .i64, .i .i64] [.int .i64 (0), .int .i64 (0), .int .i64 (0), .int .i64 (0)])), [7, 1000000008], (some 7), none⟩,
   o4 1 [7] (.store 7 [] 0 .nil (.t 19))])
 (.seq (.join [⟨7, [.i .i64, .i .i64, .i .i64, .i .i64], false⟩] 1099510579840 none (.seq (.join [⟨27, [.b], false⟩] 267387392 none (.rg [o1 20 (.idx .nil),
   o1 21 (.load 5 [] 1 (.t 20) 1 true),
   o1 22 (.len 21),
   o1 23 (.data (.bin .gtr) [.t 22, .c (.int .i64 (0))]),
   o1 24 (.copy 23),
   o2 25 (.same 4) 4 true,
   ⟨false, [], [], .call 2 26 [.t 9, .c [.i .i64] [.int .i64 (3)]] (.mp 0), [26, 9], (some 26), some (4, true)⟩,
   ⟨false, [], [], .pick 24 (.t 26) (.c (.bool false)), [27], (some 27), none⟩]))
 (.cond (.t 27)
  (.seq (.rg [o1 28 (.idx .nil),
    o1 29 (.load 5 [] 1 (.t 28) 1 true),
    o1 30 (.index 29 (.c (.int .i64 (0)))),
    o1 31 (.idx (.t 30)),
    o1 32 (.load 5 [(1, 2)] 1 (.t 31) 1 false),
    o1 33 (.idx .nil),
    o4 1 [7] (.store 7 [] 2 (.t 33) (.t 32))])
  (.rg [o1 34 (.idx .nil),
    o1 35 (.load 5 [] 1 (.t 34) 1 true),
    o1 36 (.index 35 (.c (.int .i64 (0)))),
    o1 37 (.idx (.t 36)),
    o1 38 (.load 5 [(1, 2)] 0 (.t 37) 1 false),
    o1 39 (.idx .nil),
    o4 1 [7] (.store 7 [] 3 (.t 39) (.t 38))]))
  .skip)))
 (.seq (.rg [o1 40 (.load 5 [] 0 .nil 2 true),
   ⟨false, [], [2, 5, 21], .det 1 (.load 7 [] 0 .nil 4 false), [41], (some 41), none⟩,
   ⟨false, [40], [], .det 2 (.store 2 [] 0 .nil (.t 40)), [2, 40, 40, 5, 21], none, none⟩,
   o4 1 [3] (.store 3 [] 0 .nil (.t 41))])
 .ret))))))))
def s_sDrawModel : Sig := ⟨[.rd false [.sl (.own none) [.d]]], (.tup [(true, 2), (true, 4)] [.d, .sl (.own none) [.d, .d], .d, .d, .d, .d])⟩
noncomputable def E_sDrawModel : TEnv := envOf [(22, p_sl01New), (23, p_sl05AnyGraph), (24, p_sl01In), (25, p_sl12Ask), (26, p_sl01Once)]
noncomputable def f_sDrawModel (n : Nat) : List (Int) → Option ((Int × List (Int × Int) × Int × Int × Int × Int) × Unit) := runFn n E_sDrawModel c_sDrawModel [[.sl [.i .u8]]] [.i .i64, .sl [.i .i64, .i .i64], .i .i64, .i .i64, .i .i64, .i .i64] [] [2, 3] .no
noncomputable def g_sDrawModel := f_sDrawModel BIG
noncomputable def p_sDrawModel : TSp := ⟨s_sDrawModel, [[.sl [.i .u8]]], [.i .i64, .sl [.i .i64, .i .i64], .i .i64, .i .i64, .i .i64, .i .i64], [], Ou.j .no, g_sDrawModel⟩
theorem k_sDrawModel : chkW PG E_sDrawModel 6 s_sDrawModel (c_sDrawModel.ht 42) .no = some (c_sDrawModel.wc E_sDrawModel, [2, 3]) := by kernel_rfl
theorem ok_sDrawModel : p_sDrawModel.Ok PG 6 := mkOk (env_cons ok_sl01New (env_cons ok_sl05AnyGraph (env_cons ok_sl01In (env_cons ok_sl12Ask (env_cons ok_sl01Once (env_nil PG)))))) k_sDrawModel (by kernel_rfl)
theorem e_sDrawModel (n : Nat) (a0 : List (Int)) : f_sDrawModel n a0 =
  Option.bind (g_sl01New a0) fun r0 =>
  Option.bind (g_sl05AnyGraph r0.1) fun r1 =>
  Option.bind (Option.bind (g_sl01In (r1.1.1, (1 : Int), (12 : Int))) fun r2 =>
   bif !r2.1 then
    some (4 : Int)
   else some r1.1.1 : Option (Int)) fun x3 =>
  Option.bind (g_sl12Ask (r1.2, x3, (3 : Int), (1 : Int))) fun r4 =>
  Option.bind (Option.bind (bif decide ((0 : Int) < (r1.1.2.length : Int)) then
     Option.bind (g_sl01Once (r4.2, (3 : Int))) fun r5 =>
     some r5.1
    else some false : Option (Bool)) fun x6 =>
   bif x6 then
    bnd r1.1.2.length (0 : Int) fun n7 =>
    Option.bind r1.1.2[n7]? fun y8 =>
    bnd r1.1.2.length (0 : Int) fun n9 =>
    Option.bind r1.1.2[n9]? fun y10 =>
    some (r4.1.1, r4.1.2.1, y8.2, y10.1)
   else some r4.1 : Option ((Int × Int × Int × Int))) fun x11 =>
  some ((r1.1.1, r1.1.2, x11), ()) := by kernel_rfl
/- impl.copyEdges -/
def c_icopyEdges : TC :=
 (.seq (.rg [o1 2 (.lit [.sl [.i .i64, .i .i64]] [.slice none 0 0])])
 (.seq (.rg [o1 3 (.copy 0),
   o1 4 (.app none 3),
   ⟨false, [], [], .det 2 (.copy 4), [2, 4], (some 2), none⟩])
 .ret))
def s_icopyEdges : Sig := ⟨[.rd false [.sl (.own none) [.d, .d]]], (.one false [.sl (.own none) [.d, .d]])⟩
noncomputable def E_icopyEdges : TEnv := envOf []
noncomputable def f_icopyEdges (n : Nat) : (List (Int × Int)) → Option ((List (Int × Int)) × Unit) := runFn n E_icopyEdges c_icopyEdges [[.sl [.i .i64, .i .i64]]] [.sl [.i .i64, .i .i64]] [] [2] .no
noncomputable def g_icopyEdges := f_icopyEdges BIG
noncomputable def p_icopyEdges : TSp := ⟨s_icopyEdges, [[.sl [.i .i64, .i .i64]]], [.sl [.i .i64, .i .i64]], [], Ou.j .no, g_icopyEdges⟩
theorem k_icopyEdges : chkW PG E_icopyEdges 27 s_icopyEdges (c_icopyEdges.ht 5) .no = some (c_icopyEdges.wc E_icopyEdges, [2]) := by kernel_rfl
theorem ok_icopyEdges : p_icopyEdges.Ok PG 27 := mkOk (env_nil PG) k_icopyEdges (by kernel_rfl)
theorem e_icopyEdges (n : Nat) (a0 : List (Int × Int)) : f_icopyEdges n a0 =
  bif decide (a0.length ≤ 4294967296) then
   some (a0, ())
  else none := by kernel_rfl
/- impl.in -/
def c_iin : TC :=
 (.seq (.rg [o1 6 (.lit [.b] [.bool false])])
 (.seq (.join [⟨6, [.b], false⟩] 32704 none (.rg [o1 7 (.copy 0),
   o1 8 (.copy 1),
   o1 9 (.data (.bin .geq) [.t 7, .t 8]),
   o1 10 (.copy 9),
   o2 11 (.copy 0) 3 true,
   o2 12 (.copy 2) 3 true,
   o2 13 (.data (.bin .leq) [.t 11, .t 12]) 3 true,
   ⟨false, [], [], .pick 10 (.t 13) (.c (.bool false)), [14], (some 14), none⟩,
   o1 6 (.copy 14)]))
 .ret))
def s_iin : Sig := ⟨[.rd false [.d], .rd false [.d], .rd false [.d]], (.one false [.d])⟩
noncomputable def E_iin : TEnv := envOf []
noncomputable def f_iin (n : Nat) : Int × Int × Int → Option ((Bool) × Unit) := runFn n E_iin c_iin [[.i .i64], [.i .i64], [.i .i64]] [.b] [] [6] .no
noncomputable def g_iin := f_iin BIG
noncomputable def p_iin : TSp := ⟨s_iin, [[.i .i64], [.i .i64], [.i .i64]], [.b], [], Ou.j .no, g_iin⟩
theorem k_iin : chkW PG E_iin 28 s_iin (c_iin.ht 15) .no = some (c_iin.wc E_iin, [6]) := by kernel_rfl
theorem ok_iin : p_iin.Ok PG 28 := mkOk (env_nil PG) k_iin (by kernel_rfl)
theorem e_iin (n : Nat) (a0 : Int) (a1 : Int) (a2 : Int) : f_iin n (a0, a1, a2) =
  Option.bind (bif decide (a1 ≤ a0) then
    some (decide (a0 ≤ a2))
   else some false : Option (Bool)) fun x0 =>
  some (x0, ()) := by kernel_rfl
/- impl.edgeOf -/
def c_iedgeOf : TC :=
 (.seq (.rg [o1 1 (.a (.t 0)),
   ⟨false, [], [], .det 2 (.a (.c [.i .i64, .i .i64] [.int .i64 (0), .int .i64 (0)])), [2, 1000000003], (some 2), none⟩])
 (.seq (.rg [o1 3 (.idx .nil),
   o1 4 (.load 1 [] 2 (.t 3) 1 false),
   o1 5 (.idx .nil),
   o1 6 (.load 1 [] 3 (.t 5) 1 false),
   o1 7 (.data .min [.t 4, .t 6]),
   o1 8 (.idx .nil),
   o1 9 (.load 1 [] 2 (.t 8) 1 false),
   o1 10 (.idx .nil),
   o1 11 (.load 1 [] 3 (.t 10) 1 false),
   o1 12 (.data .max [.t 9, .t 11]),
   o1 13 (.build [.i .i64, .i .i64] [(0, .t 7), (1, .t 12)]),
   o4 1 [2] (.store 2 [] 0 .nil (.t 13))])
 .ret))
def s_iedgeOf : Sig := ⟨[.rd true [.d, .d, .d, .d]], (.one true [.d, .d])⟩
noncomputable def E_iedgeOf : TEnv := envOf []
noncomputable def f_iedgeOf (n : Nat) : (Int × Int × Int × Int) → Option ((Int × Int) × Unit) := runFn n E_iedgeOf c_iedgeOf [[.i .i64, .i .i64, .i .i64, .i .i64]] [.i .i64, .i .i64] [] [2] .no
noncomputable def g_iedgeOf := f_iedgeOf BIG
noncomputable def p_iedgeOf : TSp := ⟨s_iedgeOf, [[.i .i64, .i .i64, .i .i64, .i .i64]], [.i .i64, .i .i64], [], Ou.j .no, g_iedgeOf⟩
theorem k_iedgeOf : chkW PG E_iedgeOf 30 s_iedgeOf (c_iedgeOf.ht 14) .no = some (c_iedgeOf.wc E_iedgeOf, [2]) := by kernel_rfl
theorem ok_iedgeOf : p_iedgeOf.Ok PG 30 := mkOk (env_nil PG) k_iedgeOf (by kernel_rfl)
theorem e_iedgeOf (n : Nat) (a0 : Int × Int × Int × Int) : f_iedgeOf n a0 =
  some (((if a0.2.2.2 < a0.2.2.1 then a0.2.2.2 else a0.2.2.1), (if a0.2.2.2 > a0.2.2.1 then a0.2.2.2 else a0.2.2.1)), ()) := by kernel_rfl
/- impl.EdgeOk -/
def c_iEdgeOk : TC :=
 (.seq (.rg [o1 3 (.a (.t 1)),
   o1 4 (.lit [.b] [.bool false])])
 (.seq (.join [⟨4, [.b], false⟩] 268435440 none (.rg [o1 5 (.copy 0),
   o3 6 28 [.t 5, .c [.i .i64] [.int .i64 (1)], .c [.i .i64] [.int .i64 (12)]],
   o1 7 (.copy 6),
   o2 8 (.idx .nil) 2 true,
   o2 9 (.load 3 [] 0 (.t 8) 1 false) 2 true,
   o2 10 (.copy 0) 2 true,
   o2 11 (.data (.bin .sub) [.t 10, .c (.int .i64 (1))]) 2 true,
   ⟨false, [], [], .call 1 28 [.t 9, .c [.i .i64] [.int .i64 (0)], .t 11] .no, [12], (some 12), some (2, true)⟩,
   ⟨false, [], [], .pick 7 (.t 12) (.c (.bool false)), [13], (some 13), none⟩,
   o1 14 (.copy 13),
   o2 15 (.idx .nil) 9 true,
   o2 16 (.load 3 [] 1 (.t 15) 1 false) 9 true,
   o2 17 (.copy 0) 9 true,
   o2 18 (.data (.bin .sub) [.t 17, .c (.int .i64 (1))]) 9 true,
   ⟨false, [], [], .call 1 28 [.t 16, .c [.i .i64] [.int .i64 (0)], .t 18] .no, [19], (some 19), some (9, true)⟩,
   ⟨false, [], [], .pick 14 (.t 19) (.c (.bool false)), [20], (some 20), none⟩,
   o1 21 (.copy 20),
   o2 22 (.idx .nil) 16 true,
   o2 23 (.load 3 [] 0 (.t 22) 1 false) 16 true,
   o2 24 (.idx .nil) 16 true,
   o2 25 (.load 3 [] 1 (.t 24) 1 false) 16 true,
   o2 26 (.data (.bin .lss) [.t 23, .t 25]) 16 true,
   ⟨false, [], [], .pick 21 (.t 26) (.c (.bool false)), [27], (some 27), none⟩,
   o1 4 (.copy 27)]))
 .ret))
def s_iEdgeOk : Sig := ⟨[.rd false [.d], .rd true [.d, .d]], (.one false [.d])⟩
noncomputable def E_iEdgeOk : TEnv := envOf [(28, p_iin)]
noncomputable def f_iEdgeOk (n : Nat) : Int × (Int × Int) → Option ((Bool) × Unit) := runFn n E_iEdgeOk c_iEdgeOk [[.i .i64], [.i .i64, .i .i64]] [.b] [] [4] .no
noncomputable def g_iEdgeOk := f_iEdgeOk BIG
noncomputable def p_iEdgeOk : TSp := ⟨s_iEdgeOk, [[.i .i64], [.i .i64, .i .i64]], [.b], [], Ou.j .no, g_iEdgeOk⟩
theorem k_iEdgeOk : chkW PG E_iEdgeOk 42 s_iEdgeOk (c_iEdgeOk.ht 28) .no = some (c_iEdgeOk.wc E_iEdgeOk, [4]) := by kernel_rfl
theorem ok_iEdgeOk : p_iEdgeOk.Ok PG 42 := mkOk (env_cons ok_iin (env_nil PG)) k_iEdgeOk (by kernel_rfl)
theorem e_iEdgeOk (n : Nat) (a0 : Int) (a1 : Int × Int) : f_iEdgeOk n (a0, a1) =
  Option.bind (Option.bind (g_iin (a0, (1 : Int), (12 : Int))) fun r0 =>
   bif r0.1 then
    Option.bind (g_iin (a1.1, (0 : Int), IntKind.wrap .i64 (a0 - (1 : Int)))) fun r1 =>
    bif r1.1 then
     Option.bind (g_iin (a1.2, (0 : Int), IntKind.wrap .i64 (a0 - (1 : Int)))) fun r2 =>
     bif r2.1 then
      some (decide (a1.1 < a1.2))
     else some false
    else some false
   else some false : Option (Bool)) fun x3 =>
  some (x3, ()) := by kernel_rfl
/- impl.ahead -/
def c_iahead : TC :=
 (.seq (.rg [o1 2 (.a (.t 0)),
   o1 3 (.a (.t 1)),
   o1 4 (.lit [.b] [.bool false])])
 (.seq (.join [⟨4, [.b], false⟩] 16777200 none (.rg [o1 5 (.idx .nil),
   o1 6 (.load 2 [] 0 (.t 5) 1 false),
   o1 7 (.idx .nil),
   o1 8 (.load 3 [] 0 (.t 7) 1 false),
   o1 9 (.data (.bin .lss) [.t 6, .t 8]),
   o1 10 (.copy 9),
   o2 11 (.idx .nil) 5 false,
   o2 12 (.load 2 [] 0 (.t 11) 1 false) 5 false,
   o2 13 (.idx .nil) 5 false,
   o2 14 (.load 3 [] 0 (.t 13) 1 false) 5 false,
   o2 15 (.data (.bin .eql) [.t 12, .t 14]) 5 false,
   o2 16 (.copy 15) 5 false,
   o2 17 (.idx .nil) 11 true,
   o2 18 (.load 2 [] 1 (.t 17) 1 false) 11 true,
   o2 19 (.idx .nil) 11 true,
   o2 20 (.load 3 [] 1 (.t 19) 1 false) 11 true,
   o2 21 (.data (.bin .lss) [.t 18, .t 20]) 11 true,
   ⟨false, [], [], .pick 16 (.t 21) (.c (.bool false)), [22], (some 22), some (5, false)⟩,
   ⟨false, [], [], .pick 10 (.c (.bool true)) (.t 22), [23], (some 23), none⟩,
   o1 4 (.copy 23)]))
 .ret))
def s_iahead : Sig := ⟨[.rd true [.d, .d], .rd true [.d, .d]], (.one false [.d])⟩
noncomputable def E_iahead : TEnv := envOf []
noncomputable def f_iahead (n : Nat) : (Int × Int) × (Int × Int) → Option ((Bool) × Unit) := runFn n E_iahead c_iahead [[.i .i64, .i .i64], [.i .i64, .i .i64]] [.b] [] [4] .no
noncomputable def g_iahead := f_iahead BIG
noncomputable def p_iahead : TSp := ⟨s_iahead, [[.i .i64, .i .i64], [.i .i64, .i .i64]], [.b], [], Ou.j .no, g_iahead⟩
theorem k_iahead : chkW PG E_iahead 76 s_iahead (c_iahead.ht 24) .no = some (c_iahead.wc E_iahead, [4]) := by kernel_rfl
theorem ok_iahead : p_iahead.Ok PG 76 := mkOk (env_nil PG) k_iahead (by kernel_rfl)
theorem e_iahead (n : Nat) (a0 : Int × Int) (a1 : Int × Int) : f_iahead n (a0, a1) =
  Option.bind (bif decide (a0.1 < a1.1) then
    some true
   else bif decide (a0.1 = a1.1) then
    some (decide (a0.2 < a1.2))
   else some false : Option (Bool)) fun x0 =>
  some (x0, ()) := by kernel_rfl
/- impl.edgesOk -/
def c_iedgesOk : TC :=
 (.seq (.rg [o1 4 (.lit [.b] [.bool false])])
 (.seq (.join [] 8589934576 (some [⟨4, [.b], false⟩]) (.seq (.rg [o1 7 (.copy 1),
   o1 8 (.len 7),
   o1 9 (.lit [.i .i64] [.int .i64 (0)])])
 (.block 0 (.loop [⟨9, [.i .i64], false⟩] 8589934192
  (.seq (.rg [o1 10 (.data (.bin .lss) [.t 9, .t 8])])
  (.seq (.cond (.t 10)
   .skip
   (.exit 0))
  (.seq (.join [] 4294965360 (some [⟨4, [.b], false⟩]) (.block 1 (.seq (.rg [o1 11 (.copy 9),
    o1 12 (.index 7 (.t 9)),
    o1 13 (.load 7 [(0, 2)] 0 (.t 12) 2 false),
    ⟨false, [], [], .det 2 (.a (.c [.i .i64, .i .i64] [.int .i64 (0), .int .i64 (0)])), [6, 1000000007], (some 6), none⟩,
    o1 5 (.copy 11),
    o4 1 [6] (.store 6 [] 0 .nil (.t 13))])
  (.seq (.join [⟨31, [.b], false⟩] 4294950912 none (.rg [o1 14 (.copy 0),
    o1 15 (.load 6 [] 0 .nil 2 false),
    o3 16 42 [.t 14, .t 15],
    o1 17 (.data .not [.t 16]),
    o1 18 (.copy 17),
    o2 19 (.copy 5) 4 false,
    o2 20 (.data (.bin .gtr) [.t 19, .c (.int .i64 (0))]) 4 false,
    o2 21 (.copy 20) 4 false,
    o2 22 (.copy 1) 7 true,
    o2 23 (.copy 5) 7 true,
    o2 24 (.data (.bin .sub) [.t 23, .c (.int .i64 (1))]) 7 true,
    o2 25 (.index 22 (.t 24)) 7 true,
    o2 26 (.load 22 [(0, 2)] 0 (.t 25) 2 false) 7 true,
    o2 27 (.load 6 [] 0 .nil 2 false) 7 true,
    ⟨false, [], [], .call 1 76 [.t 26, .t 27] .no, [28], (some 28), some (7, true)⟩,
    o2 29 (.data .not [.t 28]) 7 true,
    ⟨false, [], [], .pick 21 (.t 29) (.c (.bool false)), [30], (some 30), some (4, false)⟩,
    ⟨false, [], [], .pick 18 (.c (.bool true)) (.t 30), [31], (some 31), none⟩]))
  (.cond (.t 31)
   (.seq (.rg [o1 4 (.lit [.b] [.bool false])])
   .ret)
   .skip)))))
  (.rg [o1 32 (.data (.bin .add) [.t 9, .c (.int .i64 (1))]),
    o1 9 (.copy 32)]))))))))
 (.seq (.rg [o1 33 (.copy 1),
   o1 34 (.len 33),
   o1 35 (.data (.bin .leq) [.t 34, .c (.int .i64 (66))]),
   o1 4 (.copy 35)])
 .ret)))
def s_iedgesOk : Sig := ⟨[.rd false [.d], .rd false [.sl (.own none) [.d, .d]]], (.one false [.d])⟩
noncomputable def E_iedgesOk : TEnv := envOf [(42, p_iEdgeOk), (76, p_iahead)]
noncomputable def f_iedgesOk (n : Nat) : Int × (List (Int × Int)) → Option ((Bool) × Unit) := runFn n E_iedgesOk c_iedgesOk [[.i .i64], [.sl [.i .i64, .i .i64]]] [.b] [] [4] .no
noncomputable def g_iedgesOk := f_iedgesOk BIG
noncomputable def p_iedgesOk : TSp := ⟨s_iedgesOk, [[.i .i64], [.sl [.i .i64, .i .i64]]], [.b], [], Ou.j .no, g_iedgesOk⟩
theorem k_iedgesOk : chkW PG E_iedgesOk 79 s_iedgesOk (c_iedgesOk.ht 36) .no = some (c_iedgesOk.wc E_iedgesOk, [4]) := by kernel_rfl
theorem ok_iedgesOk : p_iedgesOk.Ok PG 79 := mkOk (env_cons ok_iEdgeOk (env_cons ok_iahead (env_nil PG))) k_iedgesOk (by kernel_rfl)
theorem e_iedgesOk (n : Nat) (a0 : Int) (a1 : List (Int × Int)) : f_iedgesOk n (a0, a1) =
  Option.bind (loopT n (X := Int) (B := (Unit) ⊕ (Bool)) (fun self1 x0 =>
    bif decide (x0 < (a1.length : Int)) then
     Option.bind (bnd a1.length x0 fun n2 =>
      Option.bind a1[n2]? fun y3 =>
      Option.bind (Option.bind (g_iEdgeOk (a0, y3)) fun r4 =>
       bif !r4.1 then
        some true
       else bif decide ((0 : Int) < x0) then
        bnd a1.length (IntKind.wrap .i64 (x0 - (1 : Int))) fun n5 =>
        Option.bind a1[n5]? fun y6 =>
        Option.bind (g_iahead (y6, y3)) fun r7 =>
        some !r7.1
       else some false : Option (Bool)) fun x8 =>
      bif x8 then
       some (Sum.inr false)
      else some (Sum.inl ()) : Option ((Unit) ⊕ (Bool))) fun y => match y with
     | .inl x9 =>
      self1 (IntKind.wrap .i64 (x0 + (1 : Int)))
     | .inr x9 =>
      some (Sum.inr x9)
    else some (Sum.inl ())) (0 : Int) : Option ((Unit) ⊕ (Bool))) fun y => match y with
  | .inl x10 =>
   some (decide ((a1.length : Int) ≤ (66 : Int)), ())
  | .inr x10 =>
   some (x10, ()) := by kernel_rfl
/- impl.GraphOk -/
def c_iGraphOk : TC :=
 (.seq (.rg [o1 1 (.a (.t 0)),
   o1 2 (.lit [.b] [.bool false])])
 (.seq (.join [⟨2, [.b], false⟩] 8188 none (.rg [o1 3 (.idx .nil),
   o1 4 (.load 1 [] 0 (.t 3) 1 false),
   o3 5 28 [.t 4, .c [.i .i64] [.int .i64 (1)], .c [.i .i64] [.int .i64 (12)]],
   o1 6 (.copy 5),
   o2 7 (.idx .nil) 3 true,
   o2 8 (.load 1 [] 0 (.t 7) 1 false) 3 true,
   o2 9 (.idx .nil) 3 true,
   o2 10 (.load 1 [] 1 (.t 9) 1 false) 3 true,
   ⟨false, [], [], .call 1 79 [.t 8, .t 10] .no, [11], (some 11), some (3, true)⟩,
   ⟨false, [], [], .pick 6 (.t 11) (.c (.bool false)), [12], (some 12), none⟩,
   o1 2 (.copy 12)]))
 .ret))
def s_iGraphOk : Sig := ⟨[.rd true [.d, .sl (.own none) [.d, .d]]], (.one false [.d])⟩
noncomputable def E_iGraphOk : TEnv := envOf [(28, p_iin), (79, p_iedgesOk)]
noncomputable def f_iGraphOk (n : Nat) : (Int × List (Int × Int)) → Option ((Bool) × Unit) := runFn n E_iGraphOk c_iGraphOk [[.i .i64, .sl [.i .i64, .i .i64]]] [.b] [] [2] .no
noncomputable def g_iGraphOk := f_iGraphOk BIG
noncomputable def p_iGraphOk : TSp := ⟨s_iGraphOk, [[.i .i64, .sl [.i .i64, .i .i64]]], [.b], [], Ou.j .no, g_iGraphOk⟩
theorem k_iGraphOk : chkW PG E_iGraphOk 58 s_iGraphOk (c_iGraphOk.ht 13) .no = some (c_iGraphOk.wc E_iGraphOk, [2]) := by kernel_rfl
theorem ok_iGraphOk : p_iGraphOk.Ok PG 58 := mkOk (env_cons ok_iin (env_cons ok_iedgesOk (env_nil PG))) k_iGraphOk (by kernel_rfl)
theorem e_iGraphOk (n : Nat) (a0 : Int × List (Int × Int)) : f_iGraphOk n a0 =
  Option.bind (Option.bind (g_iin (a0.1, (1 : Int), (12 : Int))) fun r0 =>
   bif r0.1 then
    Option.bind (g_iedgesOk (a0.1, a0.2)) fun r1 =>
    some r1.1
   else some false : Option (Bool)) fun x2 =>
  some (x2, ()) := by kernel_rfl
/- impl.hasEdge -/
def c_ihasEdge : TC :=
 (.seq (.rg [o1 3 (.a (.t 1)),
   o1 4 (.lit [.b] [.bool false])])
 (.seq (.join [] 131024 (some [⟨4, [.b], false⟩]) (.seq (.rg [o1 7 (.copy 0),
   o1 8 (.len 7),
   o1 9 (.lit [.i .i64] [.int .i64 (0)])])
 (.block 0 (.loop [⟨9, [.i .i64], false⟩] 130640
  (.seq (.rg [o1 10 (.data (.bin .lss) [.t 9, .t 8])])
  (.seq (.cond (.t 10)
   .skip
   (.exit 0))
  (.seq (.block 1 (.seq (.rg [o1 11 (.index 7 (.t 9)),
    o1 12 (.load 7 [(0, 2)] 0 (.t 11) 2 false),
    ⟨false, [], [], .det 2 (.a (.c [.i .i64, .i .i64] [.int .i64 (0), .int .i64 (0)])), [6, 1000000007], (some 6), none⟩,
    o4 1 [6] (.store 6 [] 0 .nil (.t 12))])
  (.seq (.rg [o1 13 (.load 6 [] 0 .nil 2 false),
    o1 14 (.load 3 [] 0 .nil 2 false),
    o1 15 (.eqA [.i, .i] (.t 13) (.t 14) false)])
  (.cond (.t 15)
   (.seq (.rg [o1 4 (.lit [.b] [.bool true])])
   .ret)
   .skip))))
  (.rg [o1 16 (.data (.bin .add) [.t 9, .c (.int .i64 (1))]),
    o1 9 (.copy 16)]))))))))
 (.seq (.rg [o1 4 (.lit [.b] [.bool false])])
 .ret)))
def s_ihasEdge : Sig := ⟨[.rd false [.sl (.own none) [.d, .d]], .rd true [.d, .d]], (.one false [.d])⟩
noncomputable def E_ihasEdge : TEnv := envOf []
noncomputable def f_ihasEdge (n : Nat) : (List (Int × Int)) × (Int × Int) → Option ((Bool) × Unit) := runFn n E_ihasEdge c_ihasEdge [[.sl [.i .i64, .i .i64]], [.i .i64, .i .i64]] [.b] [] [4] .no
noncomputable def g_ihasEdge := f_ihasEdge BIG
noncomputable def p_ihasEdge : TSp := ⟨s_ihasEdge, [[.sl [.i .i64, .i .i64]], [.i .i64, .i .i64]], [.b], [], Ou.j .no, g_ihasEdge⟩
theorem k_ihasEdge : chkW PG E_ihasEdge 49 s_ihasEdge (c_ihasEdge.ht 17) .no = some (c_ihasEdge.wc E_ihasEdge, [4]) := by kernel_rfl
theorem ok_ihasEdge : p_ihasEdge.Ok PG 49 := mkOk (env_nil PG) k_ihasEdge (by kernel_rfl)
theorem e_ihasEdge (n : Nat) (a0 : List (Int × Int)) (a1 : Int × Int) : f_ihasEdge n (a0, a1) =
  Option.bind (loopT n (X := Int) (B := (Unit) ⊕ (Bool)) (fun self1 x0 =>
    bif decide (x0 < (a0.length : Int)) then
     bnd a0.length x0 fun n2 =>
     Option.bind a0[n2]? fun y3 =>
     bif (decide (y3.1 = a1.1) && (decide (y3.2 = a1.2) && true)) then
      some (Sum.inr true)
     else self1 (IntKind.wrap .i64 (x0 + (1 : Int)))
    else some (Sum.inl ())) (0 : Int) : Option ((Unit) ⊕ (Bool))) fun y => match y with
  | .inl x4 =>
   some (false, ())
  | .inr x4 =>
   some (x4, ()) := by kernel_rfl
/- impl.HasEdge -/
def c_iHasEdge : TC :=
 (.seq (.rg [o1 2 (.a (.t 0)),
   o1 3 (.a (.t 1)),
   o1 4 (.lit [.b] [.bool false])])
 (.seq (.rg [o1 5 (.idx .nil),
   o1 6 (.load 2 [] 1 (.t 5) 1 false),
   o1 7 (.load 3 [] 0 .nil 2 false),
   o3 8 49 [.t 6, .t 7],
   o1 4 (.copy 8)])
 .ret))
def s_iHasEdge : Sig := ⟨[.rd true [.d, .sl (.own none) [.d, .d]], .rd true [.d, .d]], (.one false [.d])⟩
noncomputable def E_iHasEdge : TEnv := envOf [(49, p_ihasEdge)]
noncomputable def f_iHasEdge (n : Nat) : (Int × List (Int × Int)) × (Int × Int) → Option ((Bool) × Unit) := runFn n E_iHasEdge c_iHasEdge [[.i .i64, .sl [.i .i64, .i .i64]], [.i .i64, .i .i64]] [.b] [] [4] .no
noncomputable def g_iHasEdge := f_iHasEdge BIG
noncomputable def p_iHasEdge : TSp := ⟨s_iHasEdge, [[.i .i64, .sl [.i .i64, .i .i64]], [.i .i64, .i .i64]], [.b], [], Ou.j .no, g_iHasEdge⟩
theorem k_iHasEdge : chkW PG E_iHasEdge 59 s_iHasEdge (c_iHasEdge.ht 9) .no = some (c_iHasEdge.wc E_iHasEdge, [4]) := by kernel_rfl
theorem ok_iHasEdge : p_iHasEdge.Ok PG 59 := mkOk (env_cons ok_ihasEdge (env_nil PG)) k_iHasEdge (by kernel_rfl)
theorem e_iHasEdge (n : Nat) (a0 : Int × List (Int × Int)) (a1 : Int × Int) : f_iHasEdge n (a0, a1) =
  Option.bind (g_ihasEdge (a0.2, a1)) fun r0 =>
  some (r0.1, ()) := by kernel_rfl
/- impl.withEdge -/
def c_iwithEdge : TC :=
 (.seq (.rg [o1 3 (.a (.t 1)),
   o1 4 (.lit [.sl [.i .i64, .i .i64]] [.slice none 0 0])])
 (.seq (.rg [o1 5 (.lit [.i .i64] [.int .i64 (0)])])
 (.seq (.join [⟨5, [.i .i64], false⟩] 1048544 none (.block 0 (.loop [⟨5, [.i .i64], false⟩] 1048544
  (.seq (.seq (.join [⟨17, [.b], false⟩] 262080 none (.rg [o1 6 (.copy 5),
    o1 7 (.copy 0),
    o1 8 (.len 7),
    o1 9 (.data (.bin .lss) [.t 6, .t 8]),
    o1 10 (.copy 9),
    o2 11 (.copy 0) 4 true,
    o2 12 (.copy 5) 4 true,
    o2 13 (.index 11 (.t 12)) 4 true,
    o2 14 (.load 11 [(0, 2)] 0 (.t 13) 2 false) 4 true,
    o2 15 (.load 3 [] 0 .nil 2 false) 4 true,
    ⟨false, [], [], .call 1 76 [.t 14, .t 15] .no, [16], (some 16), some (4, true)⟩,
    ⟨false, [], [], .pick 10 (.t 16) (.c (.bool false)), [17], (some 17), none⟩]))
  (.cond (.t 17)
   .skip
   (.exit 0)))
  (.block 1 (.rg [o1 18 (.copy 5),
    o1 19 (.data (.bin .add) [.t 18, .c (.int .i64 (1))]),
    o1 5 (.copy 19)]))))))
 (.seq (.rg [o1 20 (.copy 0),
   o1 21 (.copy 5),
   o1 27 (.copy 0),
   o1 28 (.copy 5),
   o1 22 (.res 20 none (some (.t 21))),
   o1 23 (.app none 22),
   o1 24 (.load 3 [] 0 .nil 2 false),
   o1 25 (.sli [.i .i64, .i .i64] [.t 24]),
   ⟨false, [], [], .det 2 (.app (some 23) 25), [26, 23], (some 26), none⟩,
   o1 29 (.res 27 (some (.t 28)) none),
   ⟨false, [], [], .det 2 (.app (some 26) 29), [30, 26], (some 30), none⟩,
   ⟨false, [], [], .det 2 (.copy 30), [4, 30], (some 4), none⟩])
 .ret))))
def s_iwithEdge : Sig := ⟨[.rd false [.sl (.own none) [.d, .d]], .rd true [.d, .d]], (.one false [.sl (.own none) [.d, .d]])⟩
noncomputable def E_iwithEdge : TEnv := envOf [(76, p_iahead)]
noncomputable def f_iwithEdge (n : Nat) : (List (Int × Int)) × (Int × Int) → Option ((List (Int × Int)) × Unit) := runFn n E_iwithEdge c_iwithEdge [[.sl [.i .i64, .i .i64]], [.i .i64, .i .i64]] [.sl [.i .i64, .i .i64]] [] [4] .no
noncomputable def g_iwithEdge := f_iwithEdge BIG
noncomputable def p_iwithEdge : TSp := ⟨s_iwithEdge, [[.sl [.i .i64, .i .i64]], [.i .i64, .i .i64]], [.sl [.i .i64, .i .i64]], [], Ou.j .no, g_iwithEdge⟩
theorem k_iwithEdge : chkW PG E_iwithEdge 50 s_iwithEdge (c_iwithEdge.ht 31) .no = some (c_iwithEdge.wc E_iwithEdge, [4]) := by kernel_rfl
theorem ok_iwithEdge : p_iwithEdge.Ok PG 50 := mkOk (env_cons ok_iahead (env_nil PG)) k_iwithEdge (by kernel_rfl)
theorem e_iwithEdge (n : Nat) (a0 : List (Int × Int)) (a1 : Int × Int) : f_iwithEdge n (a0, a1) =
  Option.bind (loopT n (X := Int) (B := Int) (fun self1 x0 =>
    Option.bind (bif decide (x0 < (a0.length : Int)) then
      bnd a0.length x0 fun n2 =>
      Option.bind a0[n2]? fun y3 =>
      Option.bind (g_iahead (y3, a1)) fun r4 =>
      some r4.1
     else some false : Option (Bool)) fun x5 =>
    bif x5 then
     self1 (IntKind.wrap .i64 (x0 + (1 : Int)))
    else some x0) (0 : Int) : Option (Int)) fun x6 =>
  bif decide (0 ≤ x6) then
   bif decide (0 ≤ (Int.toNat x6) ∧ (Int.toNat x6) ≤ a0.length) then
    bif decide ((List.take ((Int.toNat x6) - 0) (List.drop 0 a0)).length ≤ 4294967296) then
     bif decide ((List.take ((Int.toNat x6) - 0) (List.drop 0 a0)).length + [a1].length ≤ 4294967296) then
      bif decide (0 ≤ x6) then
       bif decide ((Int.toNat x6) ≤ a0.length ∧ a0.length ≤ a0.length) then
        bif decide (((List.take ((Int.toNat x6) - 0) (List.drop 0 a0)) ++ [a1]).length + (List.take (a0.length - (Int.toNat x6)) (List.drop (Int.toNat x6) a0)).length ≤ 4294967296) then
         some (((List.take ((Int.toNat x6) - 0) (List.drop 0 a0)) ++ [a1]) ++ (List.take (a0.length - (Int.toNat x6)) (List.drop (Int.toNat x6) a0)), ())
        else none
       else none
      else none
     else none
    else none
   else none
  else none := by kernel_rfl
/- impl.AddEdge -/
def c_iAddEdge : TC :=
 (.seq (.rg [o1 2 (.a (.t 0)),
   o1 3 (.a (.t 1)),
   ⟨false, [], [], .det 2 (.a (.c [.i .i64, .sl [.i .i64, .i .i64]] [.int .i64 (0), .slice none 0 0])), [4, 1000000005], (some 4), none⟩,
   o1 5 (.lit [.b] [.bool false])])
 (.seq (.seq (.join [⟨20, [.b], false⟩] 2097088 none (.rg [o1 6 (.load 2 [] 0 .nil 2 false),
   o3 7 58 [.t 6],
   o1 8 (.data .not [.t 7]),
   o1 9 (.copy 8),
   o2 10 (.idx .nil) 3 false,
   o2 11 (.load 2 [] 0 (.t 10) 1 false) 3 false,
   o2 12 (.load 3 [] 0 .nil 2 false) 3 false,
   ⟨false, [], [], .call 1 42 [.t 11, .t 12] .no, [13], (some 13), some (3, false)⟩,
   o2 14 (.data .not [.t 13]) 3 false,
   ⟨false, [], [], .pick 9 (.c (.bool true)) (.t 14), [15], (some 15), none⟩,
   o1 16 (.copy 15),
   o2 17 (.load 2 [] 0 .nil 2 false) 10 false,
   o2 18 (.load 3 [] 0 .nil 2 false) 10 false,
   ⟨false, [], [], .call 1 59 [.t 17, .t 18] .no, [19], (some 19), some (10, false)⟩,
   ⟨false, [], [], .pick 16 (.c (.bool true)) (.t 19), [20], (some 20), none⟩]))
 (.cond (.t 20)
  (.seq (.rg [o1 21 (.build [.i .i64, .sl [.i .i64, .i .i64]] []),
    o4 2 [4, 21] (.store 4 [] 0 .nil (.t 21)),
    o1 5 (.lit [.b] [.bool false])])
  .ret)
  .skip))
 (.seq (.rg [o1 22 (.idx .nil),
   o1 23 (.load 2 [] 0 (.t 22) 1 false),
   o1 24 (.idx .nil),
   o1 25 (.load 2 [] 1 (.t 24) 1 false),
   o1 26 (.load 3 [] 0 .nil 2 false),
   o3 27 50 [.t 25, .t 26],
   ⟨false, [], [], .det 2 (.build [.i .i64, .sl [.i .i64, .i .i64]] [(0, .t 23), (1, .t 27)]), [28, 27], (some 28), none⟩,
   o4 2 [4, 28] (.store 4 [] 0 .nil (.t 28)),
   o1 5 (.lit [.b] [.bool true])])
 .ret)))
def s_iAddEdge : Sig := ⟨[.rd true [.d, .sl (.own none) [.d, .d]], .rd true [.d, .d]], (.tup [(true, 2), (false, 1)] [.d, .sl (.own none) [.d, .d], .d])⟩
noncomputable def E_iAddEdge : TEnv := envOf [(58, p_iGraphOk), (42, p_iEdgeOk), (59, p_iHasEdge), (50, p_iwithEdge)]
noncomputable def f_iAddEdge (n : Nat) : (Int × List (Int × Int)) × (Int × Int) → Option ((Int × List (Int × Int) × Bool) × Unit) := runFn n E_iAddEdge c_iAddEdge [[.i .i64, .sl [.i .i64, .i .i64]], [.i .i64, .i .i64]] [.i .i64, .sl [.i .i64, .i .i64], .b] [] [4, 5] .no
noncomputable def g_iAddEdge := f_iAddEdge BIG
noncomputable def p_iAddEdge : TSp := ⟨s_iAddEdge, [[.i .i64, .sl [.i .i64, .i .i64]], [.i .i64, .i .i64]], [.i .i64, .sl [.i .i64, .i .i64], .b], [], Ou.j .no, g_iAddEdge⟩
theorem k_iAddEdge : chkW PG E_iAddEdge 29 s_iAddEdge (c_iAddEdge.ht 29) .no = some (c_iAddEdge.wc E_iAddEdge, [4, 5]) := by kernel_rfl
theorem ok_iAddEdge : p_iAddEdge.Ok PG 29 := mkOk (env_cons ok_iGraphOk (env_cons ok_iEdgeOk (env_cons ok_iHasEdge (env_cons ok_iwithEdge (env_nil PG))))) k_iAddEdge (by kernel_rfl)
theorem e_iAddEdge (n : Nat) (a0 : Int × List (Int × Int)) (a1 : Int × Int) : f_iAddEdge n (a0, a1) =
  Option.bind (Option.bind (g_iGraphOk a0) fun r0 =>
   bif !r0.1 then
    some true
   else Option.bind (g_iEdgeOk (a0.1, a1)) fun r1 =>
   bif !r1.1 then
    some true
   else Option.bind (g_iHasEdge (a0, a1)) fun r2 =>
   some r2.1 : Option (Bool)) fun x3 =>
  bif x3 then
   some (((0 : Int), [], false), ())
  else Option.bind (g_iwithEdge (a0.2, a1)) fun r4 =>
  some ((a0.1, r4.1, true), ()) := by kernel_rfl
/- impl.withoutEdge -/
def c_iwithoutEdge : TC :=
 (.seq (.rg [o1 3 (.a (.t 1)),
   o1 4 (.lit [.sl [.i .i64, .i .i64]] [.slice none 0 0])])
 (.seq (.rg [o1 5 (.lit [.sl [.i .i64, .i .i64]] [.slice none 0 0])])
 (.seq (.join [⟨5, [.sl [.i .i64, .i .i64]], false⟩] 4194208 none (.seq (.rg [o1 8 (.copy 0),
   o1 9 (.len 8),
   o1 10 (.lit [.i .i64] [.int .i64 (0)])])
 (.block 0 (.loop [⟨5, [.sl [.i .i64, .i .i64]], false⟩, ⟨10, [.i .i64], false⟩] 4193440
  (.seq (.rg [o1 11 (.data (.bin .lss) [.t 10, .t 9])])
  (.seq (.cond (.t 11)
   .skip
   (.exit 0))
  (.seq (.join [⟨5, [.sl [.i .i64, .i .i64]], false⟩] 2093216 none (.block 1 (.seq (.rg [o1 12 (.index 8 (.t 10)),
    o1 13 (.load 8 [(0, 2)] 0 (.t 12) 2 false),
    ⟨false, [], [], .det 2 (.a (.c [.i .i64, .i .i64] [.int .i64 (0), .int .i64 (0)])), [7, 1000000008], (some 7), none⟩,
    o4 1 [7] (.store 7 [] 0 .nil (.t 13))])
  (.seq (.rg [o1 14 (.load 7 [] 0 .nil 2 false),
    o1 15 (.load 3 [] 0 .nil 2 false),
    o1 16 (.eqA [.i, .i] (.t 14) (.t 15) true)])
  (.cond (.t 16)
   (.rg [⟨false, [], [], .det 2 (.copy 5), [17, 5], (some 17), none⟩,
     o1 18 (.load 7 [] 0 .nil 2 false),
     o1 19 (.sli [.i .i64, .i .i64] [.t 18]),
     ⟨false, [], [], .det 2 (.app (some 17) 19), [20, 17], (some 20), none⟩,
     ⟨false, [], [], .det 2 (.copy 20), [5, 20], (some 5), none⟩])
   .skip)))))
  (.rg [o1 21 (.data (.bin .add) [.t 10, .c (.int .i64 (1))]),
    o1 10 (.copy 21)]))))))))
 (.seq (.rg [⟨false, [], [], .det 2 (.copy 5), [22, 5], (some 22), none⟩,
   ⟨false, [], [], .det 2 (.copy 22), [4, 22], (some 4), none⟩])
 .ret))))
def s_iwithoutEdge : Sig := ⟨[.rd false [.sl (.own none) [.d, .d]], .rd true [.d, .d]], (.one false [.sl (.own none) [.d, .d]])⟩
noncomputable def E_iwithoutEdge : TEnv := envOf []
noncomputable def f_iwithoutEdge (n : Nat) : (List (Int × Int)) × (Int × Int) → Option ((List (Int × Int)) × Unit) := runFn n E_iwithoutEdge c_iwithoutEdge [[.sl [.i .i64, .i .i64]], [.i .i64, .i .i64]] [.sl [.i .i64, .i .i64]] [] [4] .no
noncomputable def g_iwithoutEdge := f_iwithoutEdge BIG
noncomputable def p_iwithoutEdge : TSp := ⟨s_iwithoutEdge, [[.sl [.i .i64, .i .i64]], [.i .i64, .i .i64]], [.sl [.i .i64, .i .i64]], [], Ou.j .no, g_iwithoutEdge⟩
theorem k_iwithoutEdge : chkW PG E_iwithoutEdge 60 s_iwithoutEdge (c_iwithoutEdge.ht 23) .no = some (c_iwithoutEdge.wc E_iwithoutEdge, [4]) := by kernel_rfl
theorem ok_iwithoutEdge : p_iwithoutEdge.Ok PG 60 := mkOk (env_nil PG) k_iwithoutEdge (by kernel_rfl)
theorem e_iwithoutEdge (n : Nat) (a0 : List (Int × Int)) (a1 : Int × Int) : f_iwithoutEdge n (a0, a1) =
  Option.bind (loopT n (X := (List (Int × Int)) × Int) (B := (List (Int × Int))) (fun self1 x0 =>
    bif decide (x0.2 < (a0.length : Int)) then
     Option.bind (bnd a0.length x0.2 fun n2 =>
      Option.bind a0[n2]? fun y3 =>
      bif !(decide (y3.1 = a1.1) && (decide (y3.2 = a1.2) && true)) then
       bif decide (x0.1.length + [y3].length ≤ 4294967296) then
        some (x0.1 ++ [y3])
       else none
      else some x0.1 : Option ((List (Int × Int)))) fun x4 =>
     self1 (x4, IntKind.wrap .i64 (x0.2 + (1 : Int)))
    else some x0.1) ([], (0 : Int)) : Option ((List (Int × Int)))) fun x5 =>
  some (x5, ()) := by kernel_rfl
/- impl.TakeEdge -/
def c_iTakeEdge : TC :=
 (.seq (.rg [o1 2 (.a (.t 0)),
   o1 3 (.a (.t 1)),
   ⟨false, [], [], .det 2 (.a (.c [.i .i64, .sl [.i .i64, .i .i64]] [.int .i64 (0), .slice none 0 0])), [4, 1000000005], (some 4), none⟩,
   o1 5 (.lit [.b] [.bool false])])
 (.seq (.seq (.join [⟨14, [.b], false⟩] 32704 none (.rg [o1 6 (.load 2 [] 0 .nil 2 false),
   o3 7 58 [.t 6],
   o1 8 (.data .not [.t 7]),
   o1 9 (.copy 8),
   o2 10 (.load 2 [] 0 .nil 2 false) 3 false,
   o2 11 (.load 3 [] 0 .nil 2 false) 3 false,
   ⟨false, [], [], .call 1 59 [.t 10, .t 11] .no, [12], (some 12), some (3, false)⟩,
   o2 13 (.data .not [.t 12]) 3 false,
   ⟨false, [], [], .pick 9 (.c (.bool true)) (.t 13), [14], (some 14), none⟩]))
 (.cond (.t 14)
  (.seq (.rg [o1 15 (.build [.i .i64, .sl [.i .i64, .i .i64]] []),
    o4 2 [4, 15] (.store 4 [] 0 .nil (.t 15)),
    o1 5 (.lit [.b] [.bool false])])
  .ret)
  .skip))
 (.seq (.rg [o1 16 (.idx .nil),
   o1 17 (.load 2 [] 0 (.t 16) 1 false),
   o1 18 (.idx .nil),
   o1 19 (.load 2 [] 1 (.t 18) 1 false),
   o1 20 (.load 3 [] 0 .nil 2 false),
   o3 21 60 [.t 19, .t 20],
   ⟨false, [], [], .det 2 (.build [.i .i64, .sl [.i .i64, .i .i64]] [(0, .t 17), (1, .t 21)]), [22, 21], (some 22), none⟩,
   o4 2 [4, 22] (.store 4 [] 0 .nil (.t 22)),
   o1 5 (.lit [.b] [.bool true])])
 .ret)))
def s_iTakeEdge : Sig := ⟨[.rd true [.d, .sl (.own none) [.d, .d]], .rd true [.d, .d]], (.tup [(true, 2), (false, 1)] [.d, .sl (.own none) [.d, .d], .d])⟩
noncomputable def E_iTakeEdge : TEnv := envOf [(58, p_iGraphOk), (59, p_iHasEdge), (60, p_iwithoutEdge)]
noncomputable def f_iTakeEdge (n : Nat) : (Int × List (Int × Int)) × (Int × Int) → Option ((Int × List (Int × Int) × Bool) × Unit) := runFn n E_iTakeEdge c_iTakeEdge [[.i .i64, .sl [.i .i64, .i .i64]], [.i .i64, .i .i64]] [.i .i64, .sl [.i .i64, .i .i64], .b] [] [4, 5] .no
noncomputable def g_iTakeEdge := f_iTakeEdge BIG
noncomputable def p_iTakeEdge : TSp := ⟨s_iTakeEdge, [[.i .i64, .sl [.i .i64, .i .i64]], [.i .i64, .i .i64]], [.i .i64, .sl [.i .i64, .i .i64], .b], [], Ou.j .no, g_iTakeEdge⟩
theorem k_iTakeEdge : chkW PG E_iTakeEdge 31 s_iTakeEdge (c_iTakeEdge.ht 23) .no = some (c_iTakeEdge.wc E_iTakeEdge, [4, 5]) := by kernel_rfl
theorem ok_iTakeEdge : p_iTakeEdge.Ok PG 31 := mkOk (env_cons ok_iGraphOk (env_cons ok_iHasEdge (env_cons ok_iwithoutEdge (env_nil PG)))) k_iTakeEdge (by kernel_rfl)
theorem e_iTakeEdge (n : Nat) (a0 : Int × List (Int × Int)) (a1 : Int × Int) : f_iTakeEdge n (a0, a1) =
  Option.bind (Option.bind (g_iGraphOk a0) fun r0 =>
   bif !r0.1 then
    some true
   else Option.bind (g_iHasEdge (a0, a1)) fun r1 =>
   some !r1.1 : Option (Bool)) fun x2 =>
  bif x2 then
   some (((0 : Int), [], false), ())
  else Option.bind (g_iwithoutEdge (a0.2, a1)) fun r3 =>
  some ((a0.1, r3.1, true), ()) := by kernel_rfl
/- impl.first -/
def c_ifirst : TC :=
 (.seq (.rg [o1 2 (.lit [.sl [.i .i64]] [.slice none 0 0])])
 (.seq (.rg [o1 3 (.lit [.sl [.i .i64]] [.slice none 0 0])])
 (.seq (.join [⟨3, [.sl [.i .i64]], false⟩] 16376 none (.seq (.rg [o1 5 (.copy 0),
   o1 6 (.lit [.i .i64] [.int .i64 (0)])])
 (.block 0 (.loop [⟨3, [.sl [.i .i64]], false⟩, ⟨6, [.i .i64], false⟩] 16344
  (.seq (.rg [o1 7 (.data (.bin .lss) [.t 6, .t 5])])
  (.seq (.cond (.t 7)
   .skip
   (.exit 0))
  (.seq (.block 1 (.seq (.rg [o1 8 (.copy 6),
    o1 4 (.copy 8)])
  (.rg [⟨false, [], [], .det 2 (.copy 3), [9, 3], (some 9), none⟩,
    o1 10 (.copy 4),
    o1 11 (.sli [.i .i64] [.t 10]),
    ⟨false, [], [], .det 2 (.app (some 9) 11), [12, 9], (some 12), none⟩,
    ⟨false, [], [], .det 2 (.copy 12), [3, 12], (some 3), none⟩])))
  (.rg [o1 13 (.data (.bin .add) [.t 6, .c (.int .i64 (1))]),
    o1 6 (.copy 13)]))))))))
 (.seq (.rg [⟨false, [], [], .det 2 (.copy 3), [14, 3], (some 14), none⟩,
   ⟨false, [], [], .det 2 (.copy 14), [2, 14], (some 2), none⟩])
 .ret))))
def s_ifirst : Sig := ⟨[.rd false [.d]], (.one false [.sl (.own none) [.d]])⟩
noncomputable def E_ifirst : TEnv := envOf []
noncomputable def f_ifirst (n : Nat) : Int → Option ((List (Int)) × Unit) := runFn n E_ifirst c_ifirst [[.i .i64]] [.sl [.i .i64]] [] [2] .no
noncomputable def g_ifirst := f_ifirst BIG
noncomputable def p_ifirst : TSp := ⟨s_ifirst, [[.i .i64]], [.sl [.i .i64]], [], Ou.j .no, g_ifirst⟩
theorem k_ifirst : chkW PG E_ifirst 80 s_ifirst (c_ifirst.ht 15) .no = some (c_ifirst.wc E_ifirst, [2]) := by kernel_rfl
theorem ok_ifirst : p_ifirst.Ok PG 80 := mkOk (env_nil PG) k_ifirst (by kernel_rfl)
theorem e_ifirst (n : Nat) (a0 : Int) : f_ifirst n a0 =
  Option.bind (loopT n (X := (List (Int)) × Int) (B := (List (Int))) (fun self1 x0 =>
    bif decide (x0.2 < a0) then
     bif decide (x0.1.length + [x0.2].length ≤ 4294967296) then
      self1 (x0.1 ++ [x0.2], IntKind.wrap .i64 (x0.2 + (1 : Int)))
     else none
    else some x0.1) ([], (0 : Int)) : Option ((List (Int)))) fun x2 =>
  some (x2, ()) := by kernel_rfl
/- impl.union -/
def c_iunion : TC :=
 (.seq (.rg [o1 6 (.lit [.b] [.bool false])])
 (.seq (.rg [⟨true, [], [], .det 1 (.copy 0), [10], (some 10), none⟩,
   o1 11 (.copy 1),
   ⟨true, [], [], .det 1 (.copy 0), [14], (some 14), none⟩,
   o1 15 (.copy 2),
   o1 12 (.index 10 (.t 11)),
   o1 13 (.load 0 [(0, 1)] 0 (.t 12) 1 false),
   o1 16 (.index 14 (.t 15)),
   o1 17 (.load 0 [(0, 1)] 0 (.t 16) 1 false),
   o1 7 (.copy 13),
   o1 8 (.copy 17)])
 (.seq (.seq (.rg [o1 18 (.copy 7),
   o1 19 (.copy 8),
   o1 20 (.data (.bin .eql) [.t 18, .t 19])])
 (.cond (.t 20)
  (.seq (.rg [o1 6 (.lit [.b] [.bool false])])
  .ret)
  .skip))
 (.seq (.join [⟨0, [.sl [.i .i64]], false⟩] 2199021158913 none (.seq (.rg [⟨true, [], [], .det 1 (.copy 0), [21], (some 21), none⟩,
   o1 22 (.len 21),
   o1 23 (.lit [.i .i64] [.int .i64 (0)])])
 (.block 0 (.loop [⟨0, [.sl [.i .i64]], false⟩, ⟨23, [.i .i64], false⟩] 2199016982017
  (.seq (.rg [o1 24 (.data (.bin .lss) [.t 23, .t 22])])
  (.seq (.cond (.t 24)
   .skip
   (.exit 0))
  (.seq (.join [⟨0, [.sl [.i .i64]], false⟩] 1099478073857 none (.block 1 (.seq (.rg [o1 25 (.copy 23),
    o1 9 (.copy 25)])
  (.seq (.rg [⟨true, [], [], .det 1 (.copy 0), [26], (some 26), none⟩,
    o1 27 (.copy 9),
    o1 28 (.index 26 (.t 27)),
    o1 29 (.load 0 [(0, 1)] 0 (.t 28) 1 false),
    o1 30 (.copy 7),
    o1 31 (.copy 8),
    o1 32 (.data .max [.t 30, .t 31]),
    o1 33 (.data (.bin .eql) [.t 29, .t 32])])
  (.cond (.t 33)
   (.rg [⟨true, [], [], .det 1 (.copy 0), [34], (some 34), none⟩,
     o1 35 (.copy 9),
     o1 36 (.copy 7),
     o1 37 (.copy 8),
     o1 38 (.data .min [.t 36, .t 37]),
     o1 39 (.index 34 (.t 35)),
     o4 1 [0, 26, 34] (.store 0 [(0, 1)] 0 (.t 39) (.t 38))])
   .skip)))))
  (.rg [o1 40 (.data (.bin .add) [.t 23, .c (.int .i64 (1))]),
    o1 23 (.copy 40)]))))))))
 (.seq (.rg [o1 6 (.lit [.b] [.bool true])])
 .ret)))))
def s_iunion : Sig := ⟨[.mt false [.sl (.own none) [.d]], .rd false [.d], .rd false [.d]], (.one false [.d])⟩
noncomputable def E_iunion : TEnv := envOf []
noncomputable def f_iunion (n : Nat) : List (Int) × Int × Int → Option ((Bool) × List (Int)) := runFn n E_iunion c_iunion [[.sl [.i .i64]], [.i .i64], [.i .i64]] [.b] [.sl [.i .i64]] [6] (.mt 0 0 0)
noncomputable def g_iunion := f_iunion BIG
noncomputable def p_iunion : TSp := ⟨s_iunion, [[.sl [.i .i64]], [.i .i64], [.i .i64]], [.b], [.sl [.i .i64]], Ou.j (.mt 0 0 0), g_iunion⟩
theorem k_iunion : chkW PG E_iunion 81 s_iunion (c_iunion.ht 41) (.mt 0 0 0) = some (c_iunion.wc E_iunion, [6]) := by kernel_rfl
theorem ok_iunion : p_iunion.Ok PG 81 := mkOk (env_nil PG) k_iunion (by kernel_rfl)
theorem e_iunion (n : Nat) (a0 : List (Int)) (a1 : Int) (a2 : Int) : f_iunion n (a0, a1, a2) =
  bnd a0.length a1 fun n0 =>
  Option.bind a0[n0]? fun y1 =>
  bnd a0.length a2 fun n2 =>
  Option.bind a0[n2]? fun y3 =>
  bif decide (y1 = y3) then
   some (false, a0)
  else Option.bind (loopT n (X := (List (Int)) × Int) (B := (List (Int))) (fun self5 x4 =>
    bif decide (x4.2 < (a0.length : Int)) then
     Option.bind (bnd x4.1.length x4.2 fun n6 =>
      Option.bind x4.1[n6]? fun y7 =>
      bif decide (y7 = (if y3 > y1 then y3 else y1)) then
       bnd x4.1.length x4.2 fun n8 =>
       Option.bind x4.1[n8]? fun y9 =>
       some (x4.1.set n8 (if y3 < y1 then y3 else y1))
      else some x4.1 : Option ((List (Int)))) fun x10 =>
     self5 (x10, IntKind.wrap .i64 (x4.2 + (1 : Int)))
    else some x4.1) (a0, (0 : Int)) : Option ((List (Int)))) fun x11 =>
  some (true, x11) := by kernel_rfl
/- impl.Labels -/
def c_iLabels : TC :=
 (.seq (.rg [o1 1 (.a (.t 0)),
   o1 2 (.lit [.sl [.i .i64]] [.slice none 0 0])])
 (.seq (.seq (.rg [o1 6 (.load 1 [] 0 .nil 2 false),
   o3 7 58 [.t 6],
   o1 8 (.data .not [.t 7])])
 (.cond (.t 8)
  (.seq (.rg [o1 2 (.lit [.sl [.i .i64]] [.slice none 0 0])])
  .ret)
  .skip))
 (.seq (.rg [o1 9 (.idx .nil),
   o1 10 (.load 1 [] 0 (.t 9) 1 false),
   o3 11 80 [.t 10],
   ⟨false, [], [], .det 2 (.copy 11), [3, 11], (some 3), none⟩])
 (.seq (.join [⟨3, [.sl [.i .i64]], false⟩] 67104808 none (.seq (.rg [o1 12 (.idx .nil),
   o1 13 (.load 1 [] 1 (.t 12) 1 false),
   o1 14 (.len 13),
   o1 15 (.lit [.i .i64] [.int .i64 (0)])])
 (.block 0 (.loop [⟨3, [.sl [.i .i64]], false⟩, ⟨15, [.i .i64], false⟩] 67076136
  (.seq (.rg [o1 16 (.data (.bin .lss) [.t 15, .t 14])])
  (.seq (.cond (.t 16)
   .skip
   (.exit 0))
  (.seq (.block 1 (.seq (.rg [o1 17 (.index 13 (.t 15)),
    o1 18 (.load 13 [(0, 2)] 0 (.t 17) 2 false),
    ⟨false, [], [], .det 2 (.a (.c [.i .i64, .i .i64] [.int .i64 (0), .int .i64 (0)])), [5, 1000000006], (some 5), none⟩,
    o4 1 [5] (.store 5 [] 0 .nil (.t 18))])
  (.rg [⟨true, [], [], .det 1 (.copy 3), [19], (some 19), none⟩,
    o1 20 (.idx .nil),
    o1 21 (.load 5 [] 0 (.t 20) 1 false),
    o1 22 (.idx .nil),
    o1 23 (.load 5 [] 1 (.t 22) 1 false),
    ⟨false, [], [], .call 2 81 [.t 19, .t 21, .t 23] (.mt 3 [] 0 19 0), [24, 3, 19], (some 24), none⟩])))
  (.rg [o1 25 (.data (.bin .add) [.t 15, .c (.int .i64 (1))]),
    o1 15 (.copy 25)]))))))))
 (.seq (.rg [⟨false, [], [], .det 2 (.copy 3), [26, 3], (some 26), none⟩,
   ⟨false, [], [], .det 2 (.copy 26), [2, 26], (some 2), none⟩])
 .ret)))))
def s_iLabels : Sig := ⟨[.rd true [.d, .sl (.own none) [.d, .d]]], (.one false [.sl (.own none) [.d]])⟩
noncomputable def E_iLabels : TEnv := envOf [(58, p_iGraphOk), (80, p_ifirst), (81, p_iunion)]
noncomputable def f_iLabels (n : Nat) : (Int × List (Int × Int)) → Option ((List (Int)) × Unit) := runFn n E_iLabels c_iLabels [[.i .i64, .sl [.i .i64, .i .i64]]] [.sl [.i .i64]] [] [2] .no
noncomputable def g_iLabels := f_iLabels BIG
noncomputable def p_iLabels : TSp := ⟨s_iLabels, [[.i .i64, .sl [.i .i64, .i .i64]]], [.sl [.i .i64]], [], Ou.j .no, g_iLabels⟩
theorem k_iLabels : chkW PG E_iLabels 61 s_iLabels (c_iLabels.ht 27) .no = some (c_iLabels.wc E_iLabels, [2]) := by kernel_rfl
theorem ok_iLabels : p_iLabels.Ok PG 61 := mkOk (env_cons ok_iGraphOk (env_cons ok_ifirst (env_cons ok_iunion (env_nil PG)))) k_iLabels (by kernel_rfl)
theorem e_iLabels (n : Nat) (a0 : Int × List (Int × Int)) : f_iLabels n a0 =
  Option.bind (g_iGraphOk a0) fun r0 =>
  bif !r0.1 then
   some ([], ())
  else Option.bind (g_ifirst a0.1) fun r1 =>
  Option.bind (loopT n (X := (List (Int)) × Int) (B := (List (Int))) (fun self3 x2 =>
    bif decide (x2.2 < (a0.2.length : Int)) then
     bnd a0.2.length x2.2 fun n4 =>
     Option.bind a0.2[n4]? fun y5 =>
     Option.bind (g_iunion (x2.1, y5.1, y5.2)) fun r6 =>
     self3 (r6.2, IntKind.wrap .i64 (x2.2 + (1 : Int)))
    else some x2.1) (r1.1, (0 : Int)) : Option ((List (Int)))) fun x7 =>
  some (x7, ()) := by kernel_rfl
/- impl.Together -/
def c_iTogether : TC :=
 (.seq (.rg [o1 3 (.a (.t 0)),
   o1 6 (.lit [.b] [.bool false])])
 (.seq (.seq (.join [⟨26, [.b], false⟩] 134217472 none (.rg [o1 8 (.load 3 [] 0 .nil 2 false),
   o3 9 58 [.t 8],
   o1 10 (.data .not [.t 9]),
   o1 11 (.copy 10),
   o2 12 (.copy 1) 3 false,
   o2 13 (.idx .nil) 3 false,
   o2 14 (.load 3 [] 0 (.t 13) 1 false) 3 false,
   o2 15 (.data (.bin .sub) [.t 14, .c (.int .i64 (1))]) 3 false,
   ⟨false, [], [], .call 1 28 [.t 12, .c [.i .i64] [.int .i64 (0)], .t 15] .no, [16], (some 16), some (3, false)⟩,
   o2 17 (.data .not [.t 16]) 3 false,
   ⟨false, [], [], .pick 11 (.c (.bool true)) (.t 17), [18], (some 18), none⟩,
   o1 19 (.copy 18),
   o2 20 (.copy 2) 11 false,
   o2 21 (.idx .nil) 11 false,
   o2 22 (.load 3 [] 0 (.t 21) 1 false) 11 false,
   o2 23 (.data (.bin .sub) [.t 22, .c (.int .i64 (1))]) 11 false,
   ⟨false, [], [], .call 1 28 [.t 20, .c [.i .i64] [.int .i64 (0)], .t 23] .no, [24], (some 24), some (11, false)⟩,
   o2 25 (.data .not [.t 24]) 11 false,
   ⟨false, [], [], .pick 19 (.c (.bool true)) (.t 25), [26], (some 26), none⟩]))
 (.cond (.t 26)
  (.seq (.rg [o1 6 (.lit [.b] [.bool false])])
  .ret)
  .skip))
 (.seq (.rg [o1 27 (.load 3 [] 0 .nil 2 false),
   o3 28 61 [.t 27],
   ⟨false, [], [], .det 2 (.copy 28), [7, 28], (some 7), none⟩])
 (.seq (.rg [⟨true, [], [], .det 1 (.copy 7), [29], (some 29), none⟩,
   o1 30 (.copy 1),
   ⟨true, [], [], .det 1 (.copy 7), [33], (some 33), none⟩,
   o1 34 (.copy 2),
   o1 31 (.index 29 (.t 30)),
   o1 32 (.load 7 [(0, 1)] 0 (.t 31) 1 false),
   o1 35 (.index 33 (.t 34)),
   o1 36 (.load 7 [(0, 1)] 0 (.t 35) 1 false),
   o1 37 (.data (.bin .eql) [.t 32, .t 36]),
   o1 6 (.copy 37)])
 .ret))))
def s_iTogether : Sig := ⟨[.rd true [.d, .sl (.own none) [.d, .d]], .rd false [.d], .rd false [.d]], (.one false [.d])⟩
noncomputable def E_iTogether : TEnv := envOf [(58, p_iGraphOk), (28, p_iin), (61, p_iLabels)]
noncomputable def f_iTogether (n : Nat) : (Int × List (Int × Int)) × Int × Int → Option ((Bool) × Unit) := runFn n E_iTogether c_iTogether [[.i .i64, .sl [.i .i64, .i .i64]], [.i .i64], [.i .i64]] [.b] [] [6] .no
noncomputable def g_iTogether := f_iTogether BIG
noncomputable def p_iTogether : TSp := ⟨s_iTogether, [[.i .i64, .sl [.i .i64, .i .i64]], [.i .i64], [.i .i64]], [.b], [], Ou.j .no, g_iTogether⟩
theorem k_iTogether : chkW PG E_iTogether 33 s_iTogether (c_iTogether.ht 38) .no = some (c_iTogether.wc E_iTogether, [6]) := by kernel_rfl
theorem ok_iTogether : p_iTogether.Ok PG 33 := mkOk (env_cons ok_iGraphOk (env_cons ok_iin (env_cons ok_iLabels (env_nil PG)))) k_iTogether (by kernel_rfl)
theorem e_iTogether (n : Nat) (a0 : Int × List (Int × Int)) (a1 : Int) (a2 : Int) : f_iTogether n (a0, a1, a2) =
  Option.bind (Option.bind (g_iGraphOk a0) fun r0 =>
   bif !r0.1 then
    some true
   else Option.bind (g_iin (a1, (0 : Int), IntKind.wrap .i64 (a0.1 - (1 : Int)))) fun r1 =>
   bif !r1.1 then
    some true
   else Option.bind (g_iin (a2, (0 : Int), IntKind.wrap .i64 (a0.1 - (1 : Int)))) fun r2 =>
   some !r2.1 : Option (Bool)) fun x3 =>
  bif x3 then
   some (false, ())
  else Option.bind (g_iLabels a0) fun r4 =>
  bnd r4.1.length a1 fun n5 =>
  Option.bind r4.1[n5]? fun y6 =>
  bnd r4.1.length a2 fun n7 =>
  Option.bind r4.1[n7]? fun y8 =>
  some (decide (y6 = y8), ()) := by kernel_rfl
/- impl.yesNo -/
def c_iyesNo : TC :=
 (.seq (.rg [o1 2 (.lit [.i .i64] [.int .i64 (0)])])
 (.seq (.seq (.rg [o1 3 (.copy 0)])
 (.cond (.t 3)
  (.seq (.rg [o1 2 (.lit [.i .i64] [.int .i64 (1)])])
  .ret)
  .skip))
 (.seq (.rg [o1 2 (.lit [.i .i64] [.int .i64 (2)])])
 .ret)))
def s_iyesNo : Sig := ⟨[.rd false [.d]], (.one false [.d])⟩
noncomputable def E_iyesNo : TEnv := envOf []
noncomputable def f_iyesNo (n : Nat) : Bool → Option ((Int) × Unit) := runFn n E_iyesNo c_iyesNo [[.b]] [.i .i64] [] [2] .no
noncomputable def g_iyesNo := f_iyesNo BIG
noncomputable def p_iyesNo : TSp := ⟨s_iyesNo, [[.b]], [.i .i64], [], Ou.j .no, g_iyesNo⟩
theorem k_iyesNo : chkW PG E_iyesNo 32 s_iyesNo (c_iyesNo.ht 4) .no = some (c_iyesNo.wc E_iyesNo, [2]) := by kernel_rfl
theorem ok_iyesNo : p_iyesNo.Ok PG 32 := mkOk (env_nil PG) k_iyesNo (by kernel_rfl)
theorem e_iyesNo (n : Nat) (a0 : Bool) : f_iyesNo n a0 =
  bif a0 then
   some ((1 : Int), ())
  else some ((2 : Int), ()) := by kernel_rfl
/- impl.Model -/
def c_iModel : TC :=
 (.seq (.rg [o1 2 (.a (.t 0)),
   o1 3 (.a (.t 1)),
   ⟨false, [], [], .det 2 (.a (.c [.i .i64, .sl [.i .i64, .i .i64]] [.int .i64 (0), .slice none 0 0])), [4, 1000000005], (some 4), none⟩,
   o1 5 (.lit [.i .i64] [.int .i64 (0)])])
 (.seq (.rg [⟨false, [], [1000000007], .det 1 (.idx .nil), [11], (some 11), none⟩,
   ⟨false, [], [1000000007], .det 1 (.load 2 [] 0 (.t 11) 1 false), [12], (some 12), none⟩,
   ⟨false, [], [1000000007], .det 1 (.idx .nil), [13], (some 13), none⟩,
   ⟨false, [], [1000000007], .det 1 (.load 2 [] 1 (.t 13) 1 false), [14], (some 14), none⟩,
   ⟨false, [], [1000000007], .call 1 27 [.t 14] .no, [15], (some 15), none⟩,
   ⟨false, [], [1000000007], .det 2 (.build [.i .i64, .sl [.i .i64, .i .i64]] [(0, .t 12), (1, .t 15)]), [16, 15], (some 16), none⟩,
   ⟨false, [], [], .det 2 (.a (.c [.i .i64, .sl [.i .i64, .i .i64]] [.int .i64 (0), .slice none 0 0])), [6, 1000000007], (some 6), none⟩,
   o4 2 [6, 16] (.store 6 [] 0 .nil (.t 16))])
 (.seq (.rg [o1 17 (.idx .nil),
   o1 18 (.load 2 [] 0 (.t 17) 1 false),
   o1 19 (.data (.bin .sub) [.t 18, .c (.int .i64 (1))]),
   o1 7 (.copy 19),
   o1 8 (.lit [.i .i64] [.int .i64 (0)])])
 (.seq (.join [⟨8, [.i .i64], false⟩, ⟨7, [.i .i64], false⟩] 7340416 none (.seq (.rg [o1 20 (.idx .nil),
   o1 21 (.load 3 [] 1 (.t 20) 1 false),
   o1 22 (.data (.bin .eql) [.t 21, .c (.int .i64 (4))])])
 (.cond (.t 22)
  (.rg [o1 8 (.lit [.i .i64] [.int .i64 (1)]),
    o1 7 (.lit [.i .i64] [.int .i64 (3)])])
  .skip)))
 (.seq (.seq (.join [⟨65, [.b], false⟩] 73786976294829817856 none (.rg [o1 23 (.idx .nil),
   o1 24 (.load 2 [] 0 (.t 23) 1 false),
   o1 25 (.data (.bin .lss) [.t 24, .c (.int .i64 (1))]),
   o1 26 (.copy 25),
   o2 27 (.idx .nil) 3 false,
   o2 28 (.load 3 [] 1 (.t 27) 1 false) 3 false,
   ⟨false, [], [], .call 1 28 [.t 28, .c [.i .i64] [.int .i64 (1)], .c [.i .i64] [.int .i64 (4)]] .no, [29], (some 29), some (3, false)⟩,
   o2 30 (.data .not [.t 29]) 3 false,
   ⟨false, [], [], .pick 26 (.c (.bool true)) (.t 30), [31], (some 31), none⟩,
   o1 32 (.copy 31),
   o2 33 (.idx .nil) 9 false,
   o2 34 (.load 3 [] 2 (.t 33) 1 false) 9 false,
   o2 35 (.idx .nil) 9 false,
   o2 36 (.load 2 [] 0 (.t 35) 1 false) 9 false,
   o2 37 (.data (.bin .sub) [.t 36, .c (.int .i64 (1))]) 9 false,
   ⟨false, [], [], .call 1 28 [.t 34, .c [.i .i64] [.int .i64 (0)], .t 37] .no, [38], (some 38), some (9, false)⟩,
   o2 39 (.data .not [.t 38]) 9 false,
   ⟨false, [], [], .pick 32 (.c (.bool true)) (.t 39), [40], (some 40), none⟩,
   o1 41 (.copy 40),
   o2 42 (.idx .nil) 18 false,
   o2 43 (.load 3 [] 3 (.t 42) 1 false) 18 false,
   o2 44 (.copy 8) 18 false,
   o2 45 (.copy 7) 18 false,
   ⟨false, [], [], .call 1 28 [.t 43, .t 44, .t 45] .no, [46], (some 46), some (18, false)⟩,
   o2 47 (.data .not [.t 46]) 18 false,
   ⟨false, [], [], .pick 41 (.c (.bool true)) (.t 47), [48], (some 48), none⟩,
   o1 49 (.copy 48),
   o2 50 (.idx .nil) 26 false,
   o2 51 (.load 3 [] 2 (.t 50) 1 false) 26 false,
   o2 52 (.idx .nil) 26 false,
   o2 53 (.load 3 [] 3 (.t 52) 1 false) 26 false,
   o2 54 (.data (.bin .eql) [.t 51, .t 53]) 26 false,
   o2 55 (.copy 54) 26 false,
   o2 56 (.idx .nil) 32 true,
   o2 57 (.load 3 [] 1 (.t 56) 1 false) 32 true,
   o2 58 (.data (.bin .eql) [.t 57, .c (.int .i64 (1))]) 32 true,
   o2 59 (.copy 58) 32 true,
   o2 60 (.idx .nil) 36 false,
   o2 61 (.load 3 [] 1 (.t 60) 1 false) 36 false,
   o2 62 (.data (.bin .eql) [.t 61, .c (.int .i64 (2))]) 36 false,
   ⟨false, [], [], .pick 59 (.c (.bool true)) (.t 62), [63], (some 63), some (32, true)⟩,
   ⟨false, [], [], .pick 55 (.t 63) (.c (.bool false)), [64], (some 64), some (26, false)⟩,
   ⟨false, [], [], .pick 49 (.c (.bool true)) (.t 64), [65], (some 65), none⟩]))
 (.cond (.t 65)
  (.seq (.rg [o1 66 (.load 6 [] 0 .nil 2 true),
    ⟨false, [66], [], .det 2 (.store 4 [] 0 .nil (.t 66)), [4, 66, 66, 6], none, none⟩,
    o1 5 (.lit [.i .i64] [.int .i64 (3)])])
  .ret)
  .skip))
 (.seq (.rg [o1 67 (.load 6 [] 0 .nil 2 true),
   ⟨false, [], [], .det 2 (.a (.c [.i .i64, .sl [.i .i64, .i .i64]] [.int .i64 (0), .slice none 0 0])), [9, 1000000010], (some 9), none⟩,
   o4 1 [9] (.store 9 [] 0 .nil (.t 67)),
   o1 10 (.lit [.b] [.bool false])])
 (.seq (.join [⟨9, [.i .i64, .sl [.i .i64, .i .i64]], false⟩, ⟨10, [.b], false⟩, ⟨4, [.i .i64, .sl [.i .i64, .i .i64]], false⟩, ⟨6, [.i .i64, .sl [.i .i64, .i .i64]], false⟩] 633825299966540748158675191408 (some [⟨4, [.i .i64, .sl [.i .i64, .i .i64]], false⟩, ⟨5, [.i .i64], false⟩]) (.seq (.rg [o1 68 (.idx .nil),
   o1 69 (.load 3 [] 1 (.t 68) 1 false)])
 (.block 0 (.seq (.rg [o1 72 (.data (.bin .eql) [.t 69, .c (.int .i64 (1))]),
   o1 71 (.copy 72)])
 (.cond (.t 71)
  (.rg [o1 74 (.load 2 [] 0 .nil 2 false),
    o1 75 (.load 3 [] 0 .nil 4 false),
    o3 76 30 [.t 75],
    o3 77 29 [.t 74, .t 76],
    ⟨false, [], [], .det 2 (.copy 77), [73, 77], (some 73), none⟩,
    ⟨false, [], [], .det 2 (.ext 73 0 2), [78, 73], (some 78), none⟩,
    o1 79 (.ext 73 2 1),
    o4 2 [9, 78] (.store 9 [] 0 .nil (.t 78)),
    o1 10 (.copy 79)])
  (.seq (.rg [o1 81 (.data (.bin .eql) [.t 69, .c (.int .i64 (2))]),
    o1 80 (.copy 81)])
  (.cond (.t 80)
   (.rg [o1 83 (.load 2 [] 0 .nil 2 false),
     o1 84 (.load 3 [] 0 .nil 4 false),
     o3 85 30 [.t 84],
     o3 86 31 [.t 83, .t 85],
     ⟨false, [], [], .det 2 (.copy 86), [82, 86], (some 82), none⟩,
     ⟨false, [], [], .det 2 (.ext 82 0 2), [87, 82], (some 87), none⟩,
     o1 88 (.ext 82 2 1),
     o4 2 [9, 87] (.store 9 [] 0 .nil (.t 87)),
     o1 10 (.copy 88)])
   (.seq (.rg [o1 90 (.data (.bin .eql) [.t 69, .c (.int .i64 (3))]),
     o1 89 (.copy 90)])
   (.cond (.t 89)
    (.seq (.rg [o1 91 (.load 6 [] 0 .nil 2 true),
      o1 92 (.load 2 [] 0 .nil 2 false),
      o1 93 (.idx .nil),
      o1 94 (.load 3 [] 2 (.t 93) 1 false),
      o1 95 (.idx .nil),
      o1 96 (.load 3 [] 3 (.t 95) 1 false),
      o3 97 33 [.t 92, .t 94, .t 96],
      o3 98 32 [.t 97],
      ⟨false, [91], [], .det 2 (.store 4 [] 0 .nil (.t 91)), [4, 91, 91, 6, 9, 67], none, none⟩,
      o1 5 (.copy 98)])
    .ret)
    (.seq (.rg [o1 70 (.load 6 [] 0 .nil 2 true),
      ⟨false, [70], [], .det 2 (.store 4 [] 0 .nil (.t 70)), [4, 70, 70, 6, 9, 67], none, none⟩,
      o1 5 (.lit [.i .i64] [.int .i64 (1)])])
    .ret))))))))))
 (.seq (.seq (.rg [o1 99 (.copy 10),
   o1 100 (.data .not [.t 99])])
 (.cond (.t 100)
  (.seq (.rg [o1 101 (.load 6 [] 0 .nil 2 true),
    ⟨false, [101], [], .det 2 (.store 4 [] 0 .nil (.t 101)), [4, 101, 101, 6, 67], none, none⟩,
    o1 5 (.lit [.i .i64] [.int .i64 (2)])])
  .ret)
  .skip))
 (.seq (.rg [o1 102 (.load 9 [] 0 .nil 2 true),
   ⟨false, [102], [], .det 2 (.store 4 [] 0 .nil (.t 102)), [4, 102, 102, 9], none, none⟩,
   o1 5 (.lit [.i .i64] [.int .i64 (1)])])
 .ret)))))))))
def s_iModel : Sig := ⟨[.rd true [.d, .sl (.own none) [.d, .d]], .rd true [.d, .d, .d, .d]], (.tup [(true, 2), (false, 1)] [.d, .sl (.own none) [.d, .d], .d])⟩
noncomputable def E_iModel : TEnv := envOf [(27, p_icopyEdges), (28, p_iin), (30, p_iedgeOf), (29, p_iAddEdge), (31, p_iTakeEdge), (33, p_iTogether), (32, p_iyesNo)]
noncomputable def f_iModel (n : Nat) : (Int × List (Int × Int)) × (Int × Int × Int × Int) → Option ((Int × List (Int × Int) × Int) × Unit) := runFn n E_iModel c_iModel [[.i .i64, .sl [.i .i64, .i .i64]], [.i .i64, .i .i64, .i .i64, .i .i64]] [.i .i64, .sl [.i .i64, .i .i64], .i .i64] [] [4, 5] .no
noncomputable def g_iModel := f_iModel BIG
noncomputable def p_iModel : TSp := ⟨s_iModel, [[.i .i64, .sl [.i .i64, .i .i64]], [.i .i64, .i .i64, .i .i64, .i .i64]], [.i .i64, .sl [.i .i64, .i .i64], .i .i64], [], Ou.j .no, g_iModel⟩
theorem k_iModel : chkW PG E_iModel 7 s_iModel (c_iModel.ht 103) .no = some (c_iModel.wc E_iModel, [4, 5]) := by kernel_rfl
theorem ok_iModel : p_iModel.Ok PG 7 := mkOk (env_cons ok_icopyEdges (env_cons ok_iin (env_cons ok_iedgeOf (env_cons ok_iAddEdge (env_cons ok_iTakeEdge (env_cons ok_iTogether (env_cons ok_iyesNo (env_nil PG)))))))) k_iModel (by kernel_rfl)
theorem e_iModel (n : Nat) (a0 : Int × List (Int × Int)) (a1 : Int × Int × Int × Int) : f_iModel n (a0, a1) =
  Option.bind (g_icopyEdges a0.2) fun r0 =>
  Option.bind (bif decide (a1.2.1 = (4 : Int)) then
    some ((1 : Int), (3 : Int))
   else some ((0 : Int), IntKind.wrap .i64 (a0.1 - (1 : Int))) : Option (Int × Int)) fun x1 =>
  Option.bind (bif decide (a0.1 < (1 : Int)) then
    some true
   else Option.bind (g_iin (a1.2.1, (1 : Int), (4 : Int))) fun r2 =>
   bif !r2.1 then
    some true
   else Option.bind (g_iin (a1.2.2.1, (0 : Int), IntKind.wrap .i64 (a0.1 - (1 : Int)))) fun r3 =>
   bif !r3.1 then
    some true
   else Option.bind (g_iin (a1.2.2.2, x1.1, x1.2)) fun r4 =>
   bif !r4.1 then
    some true
   else bif decide (a1.2.2.1 = a1.2.2.2) then
    bif decide (a1.2.1 = (1 : Int)) then
     some true
    else some (decide (a1.2.1 = (2 : Int)))
   else some false : Option (Bool)) fun x5 =>
  bif x5 then
   some ((a0.1, r0.1, (3 : Int)), ())
  else Option.bind (bif decide (a1.2.1 = (1 : Int)) then
    Option.bind (g_iedgeOf a1) fun r6 =>
    Option.bind (g_iAddEdge (a0, r6.1)) fun r7 =>
    some (Sum.inl ((r7.1.1, r7.1.2.1), r7.1.2.2, ((0 : Int), []), (a0.1, r0.1)))
   else bif decide (a1.2.1 = (2 : Int)) then
    Option.bind (g_iedgeOf a1) fun r8 =>
    Option.bind (g_iTakeEdge (a0, r8.1)) fun r9 =>
    some (Sum.inl ((r9.1.1, r9.1.2.1), r9.1.2.2, ((0 : Int), []), (a0.1, r0.1)))
   else bif decide (a1.2.1 = (3 : Int)) then
    Option.bind (g_iTogether (a0, a1.2.2.1, a1.2.2.2)) fun r10 =>
    Option.bind (g_iyesNo r10.1) fun r11 =>
    some (Sum.inr ((a0.1, r0.1), r11.1))
   else some (Sum.inr ((a0.1, r0.1), (1 : Int))) : Option (((Int × List (Int × Int)) × Bool × (Int × List (Int × Int)) × (Int × List (Int × Int))) ⊕ ((Int × List (Int × Int)) × Int))) fun y => match y with
  | .inl x12 =>
   bif !x12.2.1 then
    some ((x12.2.2.2.1, x12.2.2.2.2, (2 : Int)), ())
   else some ((x12.1.1, x12.1.2, (1 : Int)), ())
  | .inr x12 =>
   some ((x12.1.1, x12.1.2, x12.2), ()) := by kernel_rfl
/- spec.EdgeOk -/
def c_sEdgeOk : TC :=
 (.seq (.rg [o1 3 (.a (.t 1)),
   o1 4 (.lit [.b] [.bool false])])
 (.seq (.join [⟨4, [.b], false⟩] 268435440 none (.rg [o1 5 (.copy 0),
   o3 6 24 [.t 5, .c [.i .i64] [.int .i64 (1)], .c [.i .i64] [.int .i64 (12)]],
   o1 7 (.copy 6),
   o2 8 (.idx .nil) 2 true,
   o2 9 (.load 3 [] 0 (.t 8) 1 false) 2 true,
   o2 10 (.copy 0) 2 true,
   o2 11 (.data (.bin .sub) [.t 10, .c (.int .i64 (1))]) 2 true,
   ⟨false, [], [], .call 1 24 [.t 9, .c [.i .i64] [.int .i64 (0)], .t 11] .no, [12], (some 12), some (2, true)⟩,
   ⟨false, [], [], .pick 7 (.t 12) (.c (.bool false)), [13], (some 13), none⟩,
   o1 14 (.copy 13),
   o2 15 (.idx .nil) 9 true,
   o2 16 (.load 3 [] 1 (.t 15) 1 false) 9 true,
   o2 17 (.copy 0) 9 true,
   o2 18 (.data (.bin .sub) [.t 17, .c (.int .i64 (1))]) 9 true,
   ⟨false, [], [], .call 1 24 [.t 16, .c [.i .i64] [.int .i64 (0)], .t 18] .no, [19], (some 19), some (9, true)⟩,
   ⟨false, [], [], .pick 14 (.t 19) (.c (.bool false)), [20], (some 20), none⟩,
   o1 21 (.copy 20),
   o2 22 (.idx .nil) 16 true,
   o2 23 (.load 3 [] 0 (.t 22) 1 false) 16 true,
   o2 24 (.idx .nil) 16 true,
   o2 25 (.load 3 [] 1 (.t 24) 1 false) 16 true,
   o2 26 (.data (.bin .lss) [.t 23, .t 25]) 16 true,
   ⟨false, [], [], .pick 21 (.t 26) (.c (.bool false)), [27], (some 27), none⟩,
   o1 4 (.copy 27)]))
 .ret))
def s_sEdgeOk : Sig := ⟨[.rd false [.d], .rd true [.d, .d]], (.one false [.d])⟩
noncomputable def E_sEdgeOk : TEnv := envOf [(24, p_sl01In)]
noncomputable def f_sEdgeOk (n : Nat) : Int × (Int × Int) → Option ((Bool) × Unit) := runFn n E_sEdgeOk c_sEdgeOk [[.i .i64], [.i .i64, .i .i64]] [.b] [] [4] .no
noncomputable def g_sEdgeOk := f_sEdgeOk BIG
noncomputable def p_sEdgeOk : TSp := ⟨s_sEdgeOk, [[.i .i64], [.i .i64, .i .i64]], [.b], [], Ou.j .no, g_sEdgeOk⟩
theorem k_sEdgeOk : chkW PG E_sEdgeOk 63 s_sEdgeOk (c_sEdgeOk.ht 28) .no = some (c_sEdgeOk.wc E_sEdgeOk, [4]) := by kernel_rfl
theorem ok_sEdgeOk : p_sEdgeOk.Ok PG 63 := mkOk (env_cons ok_sl01In (env_nil PG)) k_sEdgeOk (by kernel_rfl)
theorem e_sEdgeOk (n : Nat) (a0 : Int) (a1 : Int × Int) : f_sEdgeOk n (a0, a1) =
  Option.bind (Option.bind (g_sl01In (a0, (1 : Int), (12 : Int))) fun r0 =>
   bif r0.1 then
    Option.bind (g_sl01In (a1.1, (0 : Int), IntKind.wrap .i64 (a0 - (1 : Int)))) fun r1 =>
    bif r1.1 then
     Option.bind (g_sl01In (a1.2, (0 : Int), IntKind.wrap .i64 (a0 - (1 : Int)))) fun r2 =>
     bif r2.1 then
      some (decide (a1.1 < a1.2))
     else some false
    else some false
   else some false : Option (Bool)) fun x3 =>
  some (x3, ()) := by kernel_rfl
/- spec.l05Edges -/
def c_sl05Edges : TC :=
 (.seq (.rg [o1 4 (.lit [.b] [.bool false])])
 (.seq (.join [] 68719476720 (some [⟨4, [.b], false⟩]) (.seq (.rg [o1 5 (.lit [.i .i64] [.int .i64 (0)])])
 (.block 0 (.loop [⟨5, [.i .i64], false⟩] 68719476720
  (.seq (.seq (.rg [o1 6 (.copy 5),
    o1 7 (.copy 1),
    o1 8 (.len 7),
    o1 9 (.data (.bin .lss) [.t 6, .t 8])])
  (.cond (.t 9)
   .skip
   (.exit 0)))
  (.seq (.join [] 68719472656 (some [⟨4, [.b], false⟩]) (.block 1 (.seq (.join [⟨35, [.b], false⟩] 68719472640 none (.rg [o1 12 (.copy 0),
    o1 13 (.copy 1),
    o1 14 (.copy 5),
    o1 15 (.index 13 (.t 14)),
    o1 16 (.load 13 [(0, 2)] 0 (.t 15) 2 false),
    o3 17 63 [.t 12, .t 16],
    o1 18 (.data .not [.t 17]),
    o1 19 (.copy 18),
    o2 20 (.copy 5) 7 false,
    o2 21 (.data (.bin .gtr) [.t 20, .c (.int .i64 (0))]) 7 false,
    o2 22 (.copy 21) 7 false,
    o2 23 (.copy 1) 10 true,
    o2 24 (.copy 5) 10 true,
    o2 25 (.data (.bin .sub) [.t 24, .c (.int .i64 (1))]) 10 true,
    o2 26 (.index 23 (.t 25)) 10 true,
    o2 27 (.load 23 [(0, 2)] 0 (.t 26) 2 false) 10 true,
    o2 28 (.copy 1) 10 true,
    o2 29 (.copy 5) 10 true,
    o2 30 (.index 28 (.t 29)) 10 true,
    o2 31 (.load 28 [(0, 2)] 0 (.t 30) 2 false) 10 true,
    ⟨false, [], [], .call 1 67 [.t 27, .t 31] .no, [32], (some 32), some (10, true)⟩,
    o2 33 (.data .not [.t 32]) 10 true,
    ⟨false, [], [], .pick 22 (.t 33) (.c (.bool false)), [34], (some 34), some (7, false)⟩,
    ⟨false, [], [], .pick 19 (.c (.bool true)) (.t 34), [35], (some 35), none⟩]))
  (.cond (.t 35)
   (.seq (.rg [o1 4 (.lit [.b] [.bool false])])
   .ret)
   .skip))))
  (.rg [o1 10 (.copy 5),
    o1 11 (.data (.bin .add) [.t 10, .c (.int .i64 (1))]),
    o1 5 (.copy 11)])))))))
 (.seq (.rg [o1 36 (.copy 1),
   o1 37 (.len 36),
   o1 38 (.data (.bin .leq) [.t 37, .c (.int .i64 (66))]),
   o1 4 (.copy 38)])
 .ret)))
def s_sl05Edges : Sig := ⟨[.rd false [.d], .rd false [.sl (.own none) [.d, .d]]], (.one false [.d])⟩
noncomputable def E_sl05Edges : TEnv := envOf [(63, p_sEdgeOk), (67, p_sl05Less)]
noncomputable def f_sl05Edges (n : Nat) : Int × (List (Int × Int)) → Option ((Bool) × Unit) := runFn n E_sl05Edges c_sl05Edges [[.i .i64], [.sl [.i .i64, .i .i64]]] [.b] [] [4] .no
noncomputable def g_sl05Edges := f_sl05Edges BIG
noncomputable def p_sl05Edges : TSp := ⟨s_sl05Edges, [[.i .i64], [.sl [.i .i64, .i .i64]]], [.b], [], Ou.j .no, g_sl05Edges⟩
theorem k_sl05Edges : chkW PG E_sl05Edges 38 s_sl05Edges (c_sl05Edges.ht 39) .no = some (c_sl05Edges.wc E_sl05Edges, [4]) := by kernel_rfl
theorem ok_sl05Edges : p_sl05Edges.Ok PG 38 := mkOk (env_cons ok_sEdgeOk (env_cons ok_sl05Less (env_nil PG))) k_sl05Edges (by kernel_rfl)
theorem e_sl05Edges (n : Nat) (a0 : Int) (a1 : List (Int × Int)) : f_sl05Edges n (a0, a1) =
  Option.bind (loopT n (X := Int) (B := (Unit) ⊕ (Bool)) (fun self1 x0 =>
    bif decide (x0 < (a1.length : Int)) then
     Option.bind (Option.bind (bnd a1.length x0 fun n2 =>
       Option.bind a1[n2]? fun y3 =>
       Option.bind (g_sEdgeOk (a0, y3)) fun r4 =>
       bif !r4.1 then
        some true
       else bif decide ((0 : Int) < x0) then
        bnd a1.length (IntKind.wrap .i64 (x0 - (1 : Int))) fun n5 =>
        Option.bind a1[n5]? fun y6 =>
        bnd a1.length x0 fun n7 =>
        Option.bind a1[n7]? fun y8 =>
        Option.bind (g_sl05Less (y6, y8)) fun r9 =>
        some !r9.1
       else some false : Option (Bool)) fun x10 =>
      bif x10 then
       some (Sum.inr false)
      else some (Sum.inl ()) : Option ((Unit) ⊕ (Bool))) fun y => match y with
     | .inl x11 =>
      self1 (IntKind.wrap .i64 (x0 + (1 : Int)))
     | .inr x11 =>
      some (Sum.inr x11)
    else some (Sum.inl ())) (0 : Int) : Option ((Unit) ⊕ (Bool))) fun y => match y with
  | .inl x12 =>
   some (decide ((a1.length : Int) ≤ (66 : Int)), ())
  | .inr x12 =>
   some (x12, ()) := by kernel_rfl
/- spec.GraphOk -/
def c_sGraphOk : TC :=
 (.seq (.rg [o1 1 (.a (.t 0)),
   o1 2 (.lit [.b] [.bool false])])
 (.seq (.join [⟨2, [.b], false⟩] 8188 none (.rg [o1 3 (.idx .nil),
   o1 4 (.load 1 [] 0 (.t 3) 1 false),
   o3 5 24 [.t 4, .c [.i .i64] [.int .i64 (1)], .c [.i .i64] [.int .i64 (12)]],
   o1 6 (.copy 5),
   o2 7 (.idx .nil) 3 true,
   o2 8 (.load 1 [] 0 (.t 7) 1 false) 3 true,
   o2 9 (.idx .nil) 3 true,
   o2 10 (.load 1 [] 1 (.t 9) 1 false) 3 true,
   ⟨false, [], [], .call 1 38 [.t 8, .t 10] .no, [11], (some 11), some (3, true)⟩,
   ⟨false, [], [], .pick 6 (.t 11) (.c (.bool false)), [12], (some 12), none⟩,
   o1 2 (.copy 12)]))
 .ret))
def s_sGraphOk : Sig := ⟨[.rd true [.d, .sl (.own none) [.d, .d]]], (.one false [.d])⟩
noncomputable def E_sGraphOk : TEnv := envOf [(24, p_sl01In), (38, p_sl05Edges)]
noncomputable def f_sGraphOk (n : Nat) : (Int × List (Int × Int)) → Option ((Bool) × Unit) := runFn n E_sGraphOk c_sGraphOk [[.i .i64, .sl [.i .i64, .i .i64]]] [.b] [] [2] .no
noncomputable def g_sGraphOk := f_sGraphOk BIG
noncomputable def p_sGraphOk : TSp := ⟨s_sGraphOk, [[.i .i64, .sl [.i .i64, .i .i64]]], [.b], [], Ou.j .no, g_sGraphOk⟩
theorem k_sGraphOk : chkW PG E_sGraphOk 10 s_sGraphOk (c_sGraphOk.ht 13) .no = some (c_sGraphOk.wc E_sGraphOk, [2]) := by kernel_rfl
theorem ok_sGraphOk : p_sGraphOk.Ok PG 10 := mkOk (env_cons ok_sl01In (env_cons ok_sl05Edges (env_nil PG))) k_sGraphOk (by kernel_rfl)
theorem e_sGraphOk (n : Nat) (a0 : Int × List (Int × Int)) : f_sGraphOk n a0 =
  Option.bind (Option.bind (g_sl01In (a0.1, (1 : Int), (12 : Int))) fun r0 =>
   bif r0.1 then
    Option.bind (g_sl05Edges (a0.1, a0.2)) fun r1 =>
    some r1.1
   else some false : Option (Bool)) fun x2 =>
  some (x2, ()) := by kernel_rfl
/- spec.l05Labels -/
def c_sl05Labels : TC :=
 (.seq (.rg [o1 4 (.lit [.sl [.i .i64]] [.slice none 0 0])])
 (.seq (.rg [o1 11 (.sli [.i .i64] []),
   ⟨false, [], [], .det 2 (.copy 11), [5, 11], (some 5), none⟩])
 (.seq (.join [⟨5, [.sl [.i .i64]], false⟩] 2093152 none (.seq (.rg [o1 6 (.lit [.i .i64] [.int .i64 (0)])])
 (.block 0 (.loop [⟨5, [.sl [.i .i64]], false⟩, ⟨6, [.i .i64], false⟩] 2093152
  (.seq (.seq (.rg [o1 12 (.copy 6),
    o1 13 (.copy 0),
    o1 14 (.data (.bin .lss) [.t 12, .t 13])])
  (.cond (.t 14)
   .skip
   (.exit 0)))
  (.seq (.block 1 (.rg [⟨false, [], [], .det 2 (.copy 5), [17, 5], (some 17), none⟩,
    o1 18 (.copy 6),
    o1 19 (.sli [.i .i64] [.t 18]),
    ⟨false, [], [], .det 2 (.app (some 17) 19), [20, 17], (some 20), none⟩,
    ⟨false, [], [], .det 2 (.copy 20), [5, 20], (some 5), none⟩]))
  (.rg [o1 15 (.copy 6),
    o1 16 (.data (.bin .add) [.t 15, .c (.int .i64 (1))]),
    o1 6 (.copy 16)])))))))
 (.seq (.join [⟨5, [.sl [.i .i64]], false⟩] 1180591620717409208224 none (.seq (.rg [o1 7 (.lit [.i .i64] [.int .i64 (0)])])
 (.block 2 (.loop [⟨5, [.sl [.i .i64]], false⟩, ⟨7, [.i .i64], false⟩] 1180591620717409208224
  (.seq (.seq (.rg [o1 21 (.copy 7),
    o1 22 (.copy 0),
    o1 23 (.data (.bin .lss) [.t 21, .t 22])])
  (.cond (.t 23)
   .skip
   (.exit 2)))
  (.seq (.join [⟨5, [.sl [.i .i64]], false⟩] 1180591620717344196384 none (.block 3 (.seq (.rg [o1 8 (.lit [.i .i64] [.int .i64 (0)])])
  (.block 4 (.loop [⟨5, [.sl [.i .i64]], false⟩, ⟨8, [.i .i64], false⟩] 1180591620717344196384
   (.seq (.seq (.rg [o1 26 (.copy 8),
     o1 27 (.copy 1),
     o1 28 (.len 27),
     o1 29 (.data (.bin .lss) [.t 26, .t 28])])
   (.cond (.t 29)
    .skip
    (.exit 4)))
   (.seq (.join [⟨5, [.sl [.i .i64]], false⟩] 1180591620713116337696 none (.block 5 (.seq (.rg [⟨true, [], [], .det 1 (.copy 5), [32], (some 32), none⟩,
     o1 33 (.copy 1),
     o1 34 (.copy 8),
     o1 35 (.index 33 (.t 34)),
     o1 36 (.idx (.t 35)),
     o1 37 (.load 33 [(0, 2)] 0 (.t 36) 1 false),
     o1 38 (.index 32 (.t 37)),
     o1 39 (.load 5 [(0, 1)] 0 (.t 38) 1 false),
     o1 9 (.copy 39)])
   (.seq (.rg [⟨true, [], [], .det 1 (.copy 5), [40], (some 40), none⟩,
     o1 41 (.copy 1),
     o1 42 (.copy 8),
     o1 43 (.index 41 (.t 42)),
     o1 44 (.idx (.t 43)),
     o1 45 (.load 41 [(0, 2)] 1 (.t 44) 1 false),
     o1 46 (.index 40 (.t 45)),
     o1 47 (.load 5 [(0, 1)] 0 (.t 46) 1 false),
     o1 10 (.copy 47)])
   (.seq (.join [⟨5, [.sl [.i .i64]], false⟩] 576180381133307936 none (.seq (.rg [o1 48 (.copy 9),
     o1 49 (.copy 10),
     o1 50 (.data (.bin .lss) [.t 48, .t 49])])
   (.cond (.t 50)
    (.rg [⟨true, [], [], .det 1 (.copy 5), [51], (some 51), none⟩,
      o1 52 (.copy 1),
      o1 53 (.copy 8),
      o1 54 (.index 52 (.t 53)),
      o1 55 (.idx (.t 54)),
      o1 56 (.load 52 [(0, 2)] 1 (.t 55) 1 false),
      o1 57 (.copy 9),
      o1 58 (.index 51 (.t 56)),
      o4 1 [5, 32, 40, 51] (.store 5 [(0, 1)] 0 (.t 58) (.t 57))])
    .skip)))
   (.seq (.rg [o1 59 (.copy 10),
     o1 60 (.copy 9),
     o1 61 (.data (.bin .lss) [.t 59, .t 60])])
   (.cond (.t 61)
    (.rg [⟨true, [], [], .det 1 (.copy 5), [62], (some 62), none⟩,
      o1 63 (.copy 1),
      o1 64 (.copy 8),
      o1 65 (.index 63 (.t 64)),
      o1 66 (.idx (.t 65)),
      o1 67 (.load 63 [(0, 2)] 0 (.t 66) 1 false),
      o1 68 (.copy 10),
      o1 69 (.index 62 (.t 67)),
      o4 1 [5, 62] (.store 5 [(0, 1)] 0 (.t 69) (.t 68))])
    .skip)))))))
   (.rg [o1 30 (.copy 8),
     o1 31 (.data (.bin .add) [.t 30, .c (.int .i64 (1))]),
     o1 8 (.copy 31)]))))))))
  (.rg [o1 24 (.copy 7),
    o1 25 (.data (.bin .add) [.t 24, .c (.int .i64 (1))]),
    o1 7 (.copy 25)])))))))
 (.seq (.rg [⟨false, [], [], .det 2 (.copy 5), [70, 5], (some 70), none⟩,
   ⟨false, [], [], .det 2 (.copy 70), [4, 70], (some 4), none⟩])
 .ret)))))
def s_sl05Labels : Sig := ⟨[.rd false [.d], .rd false [.sl (.own none) [.d, .d]]], (.one false [.sl (.own none) [.d]])⟩
noncomputable def E_sl05Labels : TEnv := envOf []
noncomputable def f_sl05Labels (n : Nat) : Int × (List (Int × Int)) → Option ((List (Int)) × Unit) := runFn n E_sl05Labels c_sl05Labels [[.i .i64], [.sl [.i .i64, .i .i64]]] [.sl [.i .i64]] [] [4] .no
noncomputable def g_sl05Labels := f_sl05Labels BIG
noncomputable def p_sl05Labels : TSp := ⟨s_sl05Labels, [[.i .i64], [.sl [.i .i64, .i .i64]]], [.sl [.i .i64]], [], Ou.j .no, g_sl05Labels⟩
theorem k_sl05Labels : chkW PG E_sl05Labels 82 s_sl05Labels (c_sl05Labels.ht 71) .no = some (c_sl05Labels.wc E_sl05Labels, [4]) := by kernel_rfl
theorem ok_sl05Labels : p_sl05Labels.Ok PG 82 := mkOk (env_nil PG) k_sl05Labels (by kernel_rfl)
theorem e_sl05Labels (n : Nat) (a0 : Int) (a1 : List (Int × Int)) : f_sl05Labels n (a0, a1) =
  Option.bind (loopT n (X := (List (Int)) × Int) (B := (List (Int))) (fun self1 x0 =>
    bif decide (x0.2 < a0) then
     bif decide (x0.1.length + [x0.2].length ≤ 4294967296) then
      self1 (x0.1 ++ [x0.2], IntKind.wrap .i64 (x0.2 + (1 : Int)))
     else none
    else some x0.1) ([], (0 : Int)) : Option ((List (Int)))) fun x2 =>
  Option.bind (loopT n (X := (List (Int)) × Int) (B := (List (Int))) (fun self4 x3 =>
    bif decide (x3.2 < a0) then
     Option.bind (loopT n (X := (List (Int)) × Int) (B := (List (Int))) (fun self6 x5 =>
       bif decide (x5.2 < (a1.length : Int)) then
        Option.bind (bnd a1.length x5.2 fun n7 =>
         Option.bind a1[n7]? fun y8 =>
         bnd x5.1.length y8.1 fun n9 =>
         Option.bind x5.1[n9]? fun y10 =>
         bnd a1.length x5.2 fun n11 =>
         Option.bind a1[n11]? fun y12 =>
         bnd x5.1.length y12.2 fun n13 =>
         Option.bind x5.1[n13]? fun y14 =>
         Option.bind (bif decide (y10 < y14) then
           bnd a1.length x5.2 fun n15 =>
           Option.bind a1[n15]? fun y16 =>
           bnd x5.1.length y16.2 fun n17 =>
           Option.bind x5.1[n17]? fun y18 =>
           some (x5.1.set n17 y10)
          else some x5.1 : Option ((List (Int)))) fun x19 =>
         bif decide (y14 < y10) then
          bnd a1.length x5.2 fun n20 =>
          Option.bind a1[n20]? fun y21 =>
          bnd x19.length y21.1 fun n22 =>
          Option.bind x19[n22]? fun y23 =>
          some (x19.set n22 y14)
         else some x19 : Option ((List (Int)))) fun x24 =>
        self6 (x24, IntKind.wrap .i64 (x5.2 + (1 : Int)))
       else some x5.1) (x3.1, (0 : Int)) : Option ((List (Int)))) fun x25 =>
     self4 (x25, IntKind.wrap .i64 (x3.2 + (1 : Int)))
    else some x3.1) (x2, (0 : Int)) : Option ((List (Int)))) fun x26 =>
  some (x26, ()) := by kernel_rfl
/- spec.Labels -/
def c_sLabels : TC :=
 (.seq (.rg [o1 1 (.a (.t 0)),
   o1 2 (.lit [.sl [.i .i64]] [.slice none 0 0])])
 (.seq (.seq (.rg [o1 3 (.load 1 [] 0 .nil 2 false),
   o3 4 10 [.t 3],
   o1 5 (.data .not [.t 4])])
 (.cond (.t 5)
  (.seq (.rg [o1 6 (.sli [.i .i64] []),
    ⟨false, [], [], .det 2 (.copy 6), [2, 6], (some 2), none⟩])
  .ret)
  .skip))
 (.seq (.rg [o1 7 (.idx .nil),
   o1 8 (.load 1 [] 0 (.t 7) 1 false),
   o1 9 (.idx .nil),
   o1 10 (.load 1 [] 1 (.t 9) 1 false),
   o3 11 82 [.t 8, .t 10],
   ⟨false, [], [], .det 2 (.copy 11), [2, 11], (some 2), none⟩])
 .ret)))
def s_sLabels : Sig := ⟨[.rd true [.d, .sl (.own none) [.d, .d]]], (.one false [.sl (.own none) [.d]])⟩
noncomputable def E_sLabels : TEnv := envOf [(10, p_sGraphOk), (82, p_sl05Labels)]
noncomputable def f_sLabels (n : Nat) : (Int × List (Int × Int)) → Option ((List (Int)) × Unit) := runFn n E_sLabels c_sLabels [[.i .i64, .sl [.i .i64, .i .i64]]] [.sl [.i .i64]] [] [2] .no
noncomputable def g_sLabels := f_sLabels BIG
noncomputable def p_sLabels : TSp := ⟨s_sLabels, [[.i .i64, .sl [.i .i64, .i .i64]]], [.sl [.i .i64]], [], Ou.j .no, g_sLabels⟩
theorem k_sLabels : chkW PG E_sLabels 62 s_sLabels (c_sLabels.ht 12) .no = some (c_sLabels.wc E_sLabels, [2]) := by kernel_rfl
theorem ok_sLabels : p_sLabels.Ok PG 62 := mkOk (env_cons ok_sGraphOk (env_cons ok_sl05Labels (env_nil PG))) k_sLabels (by kernel_rfl)
theorem e_sLabels (n : Nat) (a0 : Int × List (Int × Int)) : f_sLabels n a0 =
  Option.bind (g_sGraphOk a0) fun r0 =>
  bif !r0.1 then
   some ([], ())
  else Option.bind (g_sl05Labels (a0.1, a0.2)) fun r1 =>
  some (r1.1, ()) := by kernel_rfl
/- spec.Together -/
def c_sTogether : TC :=
 (.seq (.rg [o1 3 (.a (.t 0)),
   o1 6 (.lit [.b] [.bool false])])
 (.seq (.rg [o1 8 (.load 3 [] 0 .nil 2 false),
   o3 9 62 [.t 8],
   ⟨false, [], [], .det 2 (.copy 9), [7, 9], (some 7), none⟩])
 (.seq (.join [⟨6, [.b], false⟩] 8589933632 none (.rg [o1 10 (.copy 1),
   ⟨true, [], [], .det 1 (.copy 7), [11], (some 11), none⟩,
   o1 12 (.len 11),
   o1 13 (.data (.bin .sub) [.t 12, .c (.int .i64 (1))]),
   o3 14 24 [.t 10, .c [.i .i64] [.int .i64 (0)], .t 13],
   o1 15 (.copy 14),
   o2 16 (.copy 2) 5 true,
   ⟨true, [], [], .det 1 (.copy 7), [17], (some 17), some (5, true)⟩,
   o2 18 (.len 17) 5 true,
   o2 19 (.data (.bin .sub) [.t 18, .c (.int .i64 (1))]) 5 true,
   ⟨false, [], [], .call 1 24 [.t 16, .c [.i .i64] [.int .i64 (0)], .t 19] .no, [20], (some 20), some (5, true)⟩,
   ⟨false, [], [], .pick 15 (.t 20) (.c (.bool false)), [21], (some 21), none⟩,
   o1 22 (.copy 21),
   ⟨true, [], [], .det 1 (.copy 7), [23], (some 23), some (12, true)⟩,
   o2 24 (.copy 1) 12 true,
   o2 25 (.index 23 (.t 24)) 12 true,
   o2 26 (.load 7 [(0, 1)] 0 (.t 25) 1 false) 12 true,
   ⟨true, [], [], .det 1 (.copy 7), [27], (some 27), some (12, true)⟩,
   o2 28 (.copy 2) 12 true,
   o2 29 (.index 27 (.t 28)) 12 true,
   o2 30 (.load 7 [(0, 1)] 0 (.t 29) 1 false) 12 true,
   o2 31 (.data (.bin .eql) [.t 26, .t 30]) 12 true,
   ⟨false, [], [], .pick 22 (.t 31) (.c (.bool false)), [32], (some 32), none⟩,
   o1 6 (.copy 32)]))
 .ret)))
def s_sTogether : Sig := ⟨[.rd true [.d, .sl (.own none) [.d, .d]], .rd false [.d], .rd false [.d]], (.one false [.d])⟩
noncomputable def E_sTogether : TEnv := envOf [(62, p_sLabels), (24, p_sl01In)]
noncomputable def f_sTogether (n : Nat) : (Int × List (Int × Int)) × Int × Int → Option ((Bool) × Unit) := runFn n E_sTogether c_sTogether [[.i .i64, .sl [.i .i64, .i .i64]], [.i .i64], [.i .i64]] [.b] [] [6] .no
noncomputable def g_sTogether := f_sTogether BIG
noncomputable def p_sTogether : TSp := ⟨s_sTogether, [[.i .i64, .sl [.i .i64, .i .i64]], [.i .i64], [.i .i64]], [.b], [], Ou.j .no, g_sTogether⟩
theorem k_sTogether : chkW PG E_sTogether 34 s_sTogether (c_sTogether.ht 33) .no = some (c_sTogether.wc E_sTogether, [6]) := by kernel_rfl
theorem ok_sTogether : p_sTogether.Ok PG 34 := mkOk (env_cons ok_sLabels (env_cons ok_sl01In (env_nil PG))) k_sTogether (by kernel_rfl)
theorem e_sTogether (n : Nat) (a0 : Int × List (Int × Int)) (a1 : Int) (a2 : Int) : f_sTogether n (a0, a1, a2) =
  Option.bind (g_sLabels a0) fun r0 =>
  Option.bind (Option.bind (g_sl01In (a1, (0 : Int), IntKind.wrap .i64 ((r0.1.length : Int) - (1 : Int)))) fun r1 =>
   bif r1.1 then
    Option.bind (g_sl01In (a2, (0 : Int), IntKind.wrap .i64 ((r0.1.length : Int) - (1 : Int)))) fun r2 =>
    bif r2.1 then
     bnd r0.1.length a1 fun n3 =>
     Option.bind r0.1[n3]? fun y4 =>
     bnd r0.1.length a2 fun n5 =>
     Option.bind r0.1[n5]? fun y6 =>
     some (decide (y4 = y6))
    else some false
   else some false : Option (Bool)) fun x7 =>
  some (x7, ()) := by kernel_rfl
/- spec.l12Edge -/
def c_sl12Edge : TC :=
 (.seq (.rg [o1 1 (.a (.t 0)),
   ⟨false, [], [], .det 2 (.a (.c [.i .i64, .i .i64] [.int .i64 (0), .int .i64 (0)])), [2, 1000000003], (some 2), none⟩])
 (.seq (.seq (.rg [o1 3 (.idx .nil),
   o1 4 (.load 1 [] 2 (.t 3) 1 false),
   o1 5 (.idx .nil),
   o1 6 (.load 1 [] 3 (.t 5) 1 false),
   o1 7 (.data (.bin .lss) [.t 4, .t 6])])
 (.cond (.t 7)
  (.seq (.rg [o1 8 (.idx .nil),
    o1 9 (.load 1 [] 2 (.t 8) 1 false),
    o1 10 (.idx .nil),
    o1 11 (.load 1 [] 3 (.t 10) 1 false),
    o1 12 (.build [.i .i64, .i .i64] [(0, .t 9), (1, .t 11)]),
    o4 1 [2] (.store 2 [] 0 .nil (.t 12))])
  .ret)
  .skip))
 (.seq (.rg [o1 13 (.idx .nil),
   o1 14 (.load 1 [] 3 (.t 13) 1 false),
   o1 15 (.idx .nil),
   o1 16 (.load 1 [] 2 (.t 15) 1 false),
   o1 17 (.build [.i .i64, .i .i64] [(0, .t 14), (1, .t 16)]),
   o4 1 [2] (.store 2 [] 0 .nil (.t 17))])
 .ret)))
def s_sl12Edge : Sig := ⟨[.rd true [.d, .d, .d, .d]], (.one true [.d, .d])⟩
noncomputable def E_sl12Edge : TEnv := envOf []
noncomputable def f_sl12Edge (n : Nat) : (Int × Int × Int × Int) → Option ((Int × Int) × Unit) := runFn n E_sl12Edge c_sl12Edge [[.i .i64, .i .i64, .i .i64, .i .i64]] [.i .i64, .i .i64] [] [2] .no
noncomputable def g_sl12Edge := f_sl12Edge BIG
noncomputable def p_sl12Edge : TSp := ⟨s_sl12Edge, [[.i .i64, .i .i64, .i .i64, .i .i64]], [.i .i64, .i .i64], [], Ou.j .no, g_sl12Edge⟩
theorem k_sl12Edge : chkW PG E_sl12Edge 36 s_sl12Edge (c_sl12Edge.ht 18) .no = some (c_sl12Edge.wc E_sl12Edge, [2]) := by kernel_rfl
theorem ok_sl12Edge : p_sl12Edge.Ok PG 36 := mkOk (env_nil PG) k_sl12Edge (by kernel_rfl)
theorem e_sl12Edge (n : Nat) (a0 : Int × Int × Int × Int) : f_sl12Edge n a0 =
  bif decide (a0.2.2.1 < a0.2.2.2) then
   some (a0.2.2, ())
  else some ((a0.2.2.2, a0.2.2.1), ()) := by kernel_rfl
/- spec.AddEdge -/
def c_sAddEdge : TC :=
 (.seq (.rg [o1 2 (.a (.t 0)),
   o1 3 (.a (.t 1)),
   ⟨false, [], [], .det 2 (.a (.c [.i .i64, .sl [.i .i64, .i .i64]] [.int .i64 (0), .slice none 0 0])), [4, 1000000005], (some 4), none⟩,
   o1 5 (.lit [.b] [.bool false])])
 (.seq (.seq (.join [⟨20, [.b], false⟩] 2097088 none (.rg [o1 6 (.load 2 [] 0 .nil 2 false),
   o3 7 10 [.t 6],
   o1 8 (.data .not [.t 7]),
   o1 9 (.copy 8),
   o2 10 (.idx .nil) 3 false,
   o2 11 (.load 2 [] 0 (.t 10) 1 false) 3 false,
   o2 12 (.load 3 [] 0 .nil 2 false) 3 false,
   ⟨false, [], [], .call 1 63 [.t 11, .t 12] .no, [13], (some 13), some (3, false)⟩,
   o2 14 (.data .not [.t 13]) 3 false,
   ⟨false, [], [], .pick 9 (.c (.bool true)) (.t 14), [15], (some 15), none⟩,
   o1 16 (.copy 15),
   o2 17 (.load 2 [] 0 .nil 2 false) 10 false,
   o2 18 (.load 3 [] 0 .nil 2 false) 10 false,
   ⟨false, [], [], .call 1 64 [.t 17, .t 18] .no, [19], (some 19), some (10, false)⟩,
   ⟨false, [], [], .pick 16 (.c (.bool true)) (.t 19), [20], (some 20), none⟩]))
 (.cond (.t 20)
  (.seq (.rg [o1 21 (.build [.i .i64, .sl [.i .i64, .i .i64]] []),
    o4 2 [4, 21] (.store 4 [] 0 .nil (.t 21)),
    o1 5 (.lit [.b] [.bool false])])
  .ret)
  .skip))
 (.seq (.rg [o1 22 (.idx .nil),
   o1 23 (.load 2 [] 0 (.t 22) 1 false),
   o1 24 (.idx .nil),
   o1 25 (.load 2 [] 1 (.t 24) 1 false),
   o1 26 (.load 3 [] 0 .nil 2 false),
   o3 27 65 [.t 25, .t 26],
   ⟨false, [], [], .det 2 (.build [.i .i64, .sl [.i .i64, .i .i64]] [(0, .t 23), (1, .t 27)]), [28, 27], (some 28), none⟩,
   o4 2 [4, 28] (.store 4 [] 0 .nil (.t 28)),
   o1 5 (.lit [.b] [.bool true])])
 .ret)))
def s_sAddEdge : Sig := ⟨[.rd true [.d, .sl (.own none) [.d, .d]], .rd true [.d, .d]], (.tup [(true, 2), (false, 1)] [.d, .sl (.own none) [.d, .d], .d])⟩
noncomputable def E_sAddEdge : TEnv := envOf [(10, p_sGraphOk), (63, p_sEdgeOk), (64, p_sHasEdge), (65, p_sl05Put)]
noncomputable def f_sAddEdge (n : Nat) : (Int × List (Int × Int)) × (Int × Int) → Option ((Int × List (Int × Int) × Bool) × Unit) := runFn n E_sAddEdge c_sAddEdge [[.i .i64, .sl [.i .i64, .i .i64]], [.i .i64, .i .i64]] [.i .i64, .sl [.i .i64, .i .i64], .b] [] [4, 5] .no
noncomputable def g_sAddEdge := f_sAddEdge BIG
noncomputable def p_sAddEdge : TSp := ⟨s_sAddEdge, [[.i .i64, .sl [.i .i64, .i .i64]], [.i .i64, .i .i64]], [.i .i64, .sl [.i .i64, .i .i64], .b], [], Ou.j .no, g_sAddEdge⟩
theorem k_sAddEdge : chkW PG E_sAddEdge 35 s_sAddEdge (c_sAddEdge.ht 29) .no = some (c_sAddEdge.wc E_sAddEdge, [4, 5]) := by kernel_rfl
theorem ok_sAddEdge : p_sAddEdge.Ok PG 35 := mkOk (env_cons ok_sGraphOk (env_cons ok_sEdgeOk (env_cons ok_sHasEdge (env_cons ok_sl05Put (env_nil PG))))) k_sAddEdge (by kernel_rfl)
theorem e_sAddEdge (n : Nat) (a0 : Int × List (Int × Int)) (a1 : Int × Int) : f_sAddEdge n (a0, a1) =
  Option.bind (Option.bind (g_sGraphOk a0) fun r0 =>
   bif !r0.1 then
    some true
   else Option.bind (g_sEdgeOk (a0.1, a1)) fun r1 =>
   bif !r1.1 then
    some true
   else Option.bind (g_sHasEdge (a0, a1)) fun r2 =>
   some r2.1 : Option (Bool)) fun x3 =>
  bif x3 then
   some (((0 : Int), [], false), ())
  else Option.bind (g_sl05Put (a0.2, a1)) fun r4 =>
  some ((a0.1, r4.1, true), ()) := by kernel_rfl
/- spec.l05Without -/
def c_sl05Without : TC :=
 (.seq (.rg [o1 3 (.a (.t 1)),
   o1 4 (.lit [.sl [.i .i64, .i .i64]] [.slice none 0 0])])
 (.seq (.rg [o1 7 (.sli [.i .i64, .i .i64] []),
   ⟨false, [], [], .det 2 (.copy 7), [5, 7], (some 5), none⟩])
 (.seq (.join [⟨5, [.sl [.i .i64, .i .i64]], false⟩] 134217568 none (.seq (.rg [o1 6 (.lit [.i .i64] [.int .i64 (0)])])
 (.block 0 (.loop [⟨5, [.sl [.i .i64, .i .i64]], false⟩, ⟨6, [.i .i64], false⟩] 134217568
  (.seq (.seq (.rg [o1 8 (.copy 6),
    o1 9 (.copy 0),
    o1 10 (.len 9),
    o1 11 (.data (.bin .lss) [.t 8, .t 10])])
  (.cond (.t 11)
   .skip
   (.exit 0)))
  (.seq (.join [⟨5, [.sl [.i .i64, .i .i64]], false⟩] 134201376 none (.block 1 (.seq (.rg [o1 14 (.copy 0),
    o1 15 (.copy 6),
    o1 16 (.index 14 (.t 15)),
    o1 17 (.load 14 [(0, 2)] 0 (.t 16) 2 false),
    o1 18 (.load 3 [] 0 .nil 2 false),
    o1 19 (.eqA [.i, .i] (.t 17) (.t 18) true)])
  (.cond (.t 19)
   (.rg [⟨false, [], [], .det 2 (.copy 5), [20, 5], (some 20), none⟩,
     o1 21 (.copy 0),
     o1 22 (.copy 6),
     o1 23 (.index 21 (.t 22)),
     o1 24 (.load 21 [(0, 2)] 0 (.t 23) 2 false),
     o1 25 (.sli [.i .i64, .i .i64] [.t 24]),
     ⟨false, [], [], .det 2 (.app (some 20) 25), [26, 20], (some 26), none⟩,
     ⟨false, [], [], .det 2 (.copy 26), [5, 26], (some 5), none⟩])
   .skip))))
  (.rg [o1 12 (.copy 6),
    o1 13 (.data (.bin .add) [.t 12, .c (.int .i64 (1))]),
    o1 6 (.copy 13)])))))))
 (.seq (.rg [⟨false, [], [], .det 2 (.copy 5), [27, 5], (some 27), none⟩,
   ⟨false, [], [], .det 2 (.copy 27), [4, 27], (some 4), none⟩])
 .ret))))
def s_sl05Without : Sig := ⟨[.rd false [.sl (.own none) [.d, .d]], .rd true [.d, .d]], (.one false [.sl (.own none) [.d, .d]])⟩
noncomputable def E_sl05Without : TEnv := envOf []
noncomputable def f_sl05Without (n : Nat) : (List (Int × Int)) × (Int × Int) → Option ((List (Int × Int)) × Unit) := runFn n E_sl05Without c_sl05Without [[.sl [.i .i64, .i .i64]], [.i .i64, .i .i64]] [.sl [.i .i64, .i .i64]] [] [4] .no
noncomputable def g_sl05Without := f_sl05Without BIG
noncomputable def p_sl05Without : TSp := ⟨s_sl05Without, [[.sl [.i .i64, .i .i64]], [.i .i64, .i .i64]], [.sl [.i .i64, .i .i64]], [], Ou.j .no, g_sl05Without⟩
theorem k_sl05Without : chkW PG E_sl05Without 66 s_sl05Without (c_sl05Without.ht 28) .no = some (c_sl05Without.wc E_sl05Without, [4]) := by kernel_rfl
theorem ok_sl05Without : p_sl05Without.Ok PG 66 := mkOk (env_nil PG) k_sl05Without (by kernel_rfl)
theorem e_sl05Without (n : Nat) (a0 : List (Int × Int)) (a1 : Int × Int) : f_sl05Without n (a0, a1) =
  Option.bind (loopT n (X := (List (Int × Int)) × Int) (B := (List (Int × Int))) (fun self1 x0 =>
    bif decide (x0.2 < (a0.length : Int)) then
     Option.bind (bnd a0.length x0.2 fun n2 =>
      Option.bind a0[n2]? fun y3 =>
      bif !(decide (y3.1 = a1.1) && (decide (y3.2 = a1.2) && true)) then
       bnd a0.length x0.2 fun n4 =>
       Option.bind a0[n4]? fun y5 =>
       bif decide (x0.1.length + [y5].length ≤ 4294967296) then
        some (x0.1 ++ [y5])
       else none
      else some x0.1 : Option ((List (Int × Int)))) fun x6 =>
     self1 (x6, IntKind.wrap .i64 (x0.2 + (1 : Int)))
    else some x0.1) ([], (0 : Int)) : Option ((List (Int × Int)))) fun x7 =>
  some (x7, ()) := by kernel_rfl
/- spec.TakeEdge -/
def c_sTakeEdge : TC :=
 (.seq (.rg [o1 2 (.a (.t 0)),
   o1 3 (.a (.t 1)),
   ⟨false, [], [], .det 2 (.a (.c [.i .i64, .sl [.i .i64, .i .i64]] [.int .i64 (0), .slice none 0 0])), [4, 1000000005], (some 4), none⟩,
   o1 5 (.lit [.b] [.bool false])])
 (.seq (.seq (.join [⟨14, [.b], false⟩] 32704 none (.rg [o1 6 (.load 2 [] 0 .nil 2 false),
   o3 7 10 [.t 6],
   o1 8 (.data .not [.t 7]),
   o1 9 (.copy 8),
   o2 10 (.load 2 [] 0 .nil 2 false) 3 false,
   o2 11 (.load 3 [] 0 .nil 2 false) 3 false,
   ⟨false, [], [], .call 1 64 [.t 10, .t 11] .no, [12], (some 12), some (3, false)⟩,
   o2 13 (.data .not [.t 12]) 3 false,
   ⟨false, [], [], .pick 9 (.c (.bool true)) (.t 13), [14], (some 14), none⟩]))
 (.cond (.t 14)
  (.seq (.rg [o1 15 (.build [.i .i64, .sl [.i .i64, .i .i64]] []),
    o4 2 [4, 15] (.store 4 [] 0 .nil (.t 15)),
    o1 5 (.lit [.b] [.bool false])])
  .ret)
  .skip))
 (.seq (.rg [o1 16 (.idx .nil),
   o1 17 (.load 2 [] 0 (.t 16) 1 false),
   o1 18 (.idx .nil),
   o1 19 (.load 2 [] 1 (.t 18) 1 false),
   o1 20 (.load 3 [] 0 .nil 2 false),
   o3 21 66 [.t 19, .t 20],
   ⟨false, [], [], .det 2 (.build [.i .i64, .sl [.i .i64, .i .i64]] [(0, .t 17), (1, .t 21)]), [22, 21], (some 22), none⟩,
   o4 2 [4, 22] (.store 4 [] 0 .nil (.t 22)),
   o1 5 (.lit [.b] [.bool true])])
 .ret)))
def s_sTakeEdge : Sig := ⟨[.rd true [.d, .sl (.own none) [.d, .d]], .rd true [.d, .d]], (.tup [(true, 2), (false, 1)] [.d, .sl (.own none) [.d, .d], .d])⟩
noncomputable def E_sTakeEdge : TEnv := envOf [(10, p_sGraphOk), (64, p_sHasEdge), (66, p_sl05Without)]
noncomputable def f_sTakeEdge (n : Nat) : (Int × List (Int × Int)) × (Int × Int) → Option ((Int × List (Int × Int) × Bool) × Unit) := runFn n E_sTakeEdge c_sTakeEdge [[.i .i64, .sl [.i .i64, .i .i64]], [.i .i64, .i .i64]] [.i .i64, .sl [.i .i64, .i .i64], .b] [] [4, 5] .no
noncomputable def g_sTakeEdge := f_sTakeEdge BIG
noncomputable def p_sTakeEdge : TSp := ⟨s_sTakeEdge, [[.i .i64, .sl [.i .i64, .i .i64]], [.i .i64, .i .i64]], [.i .i64, .sl [.i .i64, .i .i64], .b], [], Ou.j .no, g_sTakeEdge⟩
theorem k_sTakeEdge : chkW PG E_sTakeEdge 37 s_sTakeEdge (c_sTakeEdge.ht 23) .no = some (c_sTakeEdge.wc E_sTakeEdge, [4, 5]) := by kernel_rfl
theorem ok_sTakeEdge : p_sTakeEdge.Ok PG 37 := mkOk (env_cons ok_sGraphOk (env_cons ok_sHasEdge (env_cons ok_sl05Without (env_nil PG)))) k_sTakeEdge (by kernel_rfl)
theorem e_sTakeEdge (n : Nat) (a0 : Int × List (Int × Int)) (a1 : Int × Int) : f_sTakeEdge n (a0, a1) =
  Option.bind (Option.bind (g_sGraphOk a0) fun r0 =>
   bif !r0.1 then
    some true
   else Option.bind (g_sHasEdge (a0, a1)) fun r1 =>
   some !r1.1 : Option (Bool)) fun x2 =>
  bif x2 then
   some (((0 : Int), [], false), ())
  else Option.bind (g_sl05Without (a0.2, a1)) fun r3 =>
  some ((a0.1, r3.1, true), ()) := by kernel_rfl
/- spec.Model -/
def c_sModel : TC :=
 (.seq (.rg [o1 2 (.a (.t 0)),
   o1 3 (.a (.t 1)),
   ⟨false, [], [], .det 2 (.a (.c [.i .i64, .sl [.i .i64, .i .i64]] [.int .i64 (0), .slice none 0 0])), [4, 1000000005], (some 4), none⟩,
   o1 5 (.lit [.i .i64] [.int .i64 (0)])])
 (.seq (.rg [⟨false, [], [1000000007], .det 1 (.idx .nil), [9], (some 9), none⟩,
   ⟨false, [], [1000000007], .det 1 (.load 2 [] 0 (.t 9) 1 false), [10], (some 10), none⟩,
   ⟨false, [], [1000000007], .det 1 (.sli [.i .i64, .i .i64] []), [11], (some 11), none⟩,
   ⟨false, [], [1000000007], .det 1 (.idx .nil), [12], (some 12), none⟩,
   ⟨false, [], [1000000007], .det 1 (.load 2 [] 1 (.t 12) 1 false), [13], (some 13), none⟩,
   ⟨false, [], [1000000007], .det 2 (.app (some 11) 13), [14, 11], (some 14), none⟩,
   ⟨false, [], [1000000007], .det 2 (.build [.i .i64, .sl [.i .i64, .i .i64]] [(0, .t 10), (1, .t 14)]), [15, 14], (some 15), none⟩,
   ⟨false, [], [], .det 2 (.a (.c [.i .i64, .sl [.i .i64, .i .i64]] [.int .i64 (0), .slice none 0 0])), [6, 1000000007], (some 6), none⟩,
   o4 2 [6, 15] (.store 6 [] 0 .nil (.t 15))])
 (.seq (.seq (.join [⟨32, [.b], false⟩] 8589869056 none (.rg [o1 16 (.idx .nil),
   o1 17 (.load 3 [] 1 (.t 16) 1 false),
   o3 18 24 [.t 17, .c [.i .i64] [.int .i64 (1)], .c [.i .i64] [.int .i64 (4)]],
   o1 19 (.data .not [.t 18]),
   o1 20 (.copy 19),
   o2 21 (.idx .nil) 4 false,
   o2 22 (.load 3 [] 2 (.t 21) 1 false) 4 false,
   o2 23 (.data (.bin .geq) [.t 22, .c (.int .i64 (0))]) 4 false,
   o2 24 (.copy 23) 4 false,
   o2 25 (.idx .nil) 8 true,
   o2 26 (.load 3 [] 2 (.t 25) 1 false) 8 true,
   o2 27 (.idx .nil) 8 true,
   o2 28 (.load 2 [] 0 (.t 27) 1 false) 8 true,
   o2 29 (.data (.bin .lss) [.t 26, .t 28]) 8 true,
   ⟨false, [], [], .pick 24 (.t 29) (.c (.bool false)), [30], (some 30), some (4, false)⟩,
   o2 31 (.data .not [.t 30]) 4 false,
   ⟨false, [], [], .pick 20 (.c (.bool true)) (.t 31), [32], (some 32), none⟩]))
 (.cond (.t 32)
  (.seq (.rg [o1 33 (.load 6 [] 0 .nil 2 true),
    ⟨false, [33], [], .det 2 (.store 4 [] 0 .nil (.t 33)), [4, 33, 33, 6], none, none⟩,
    o1 5 (.lit [.i .i64] [.int .i64 (3)])])
  .ret)
  .skip))
 (.seq (.seq (.rg [o1 34 (.idx .nil),
   o1 35 (.load 3 [] 1 (.t 34) 1 false),
   o1 36 (.data (.bin .eql) [.t 35, .c (.int .i64 (4))])])
 (.cond (.t 36)
  (.seq (.seq (.rg [o1 37 (.idx .nil),
    o1 38 (.load 3 [] 3 (.t 37) 1 false),
    o3 39 24 [.t 38, .c [.i .i64] [.int .i64 (1)], .c [.i .i64] [.int .i64 (3)]],
    o1 40 (.data .not [.t 39])])
  (.cond (.t 40)
   (.seq (.rg [o1 41 (.load 6 [] 0 .nil 2 true),
     ⟨false, [41], [], .det 2 (.store 4 [] 0 .nil (.t 41)), [4, 41, 41, 6], none, none⟩,
     o1 5 (.lit [.i .i64] [.int .i64 (3)])])
   .ret)
   .skip))
  (.seq (.rg [o1 42 (.load 6 [] 0 .nil 2 true),
    ⟨false, [42], [], .det 2 (.store 4 [] 0 .nil (.t 42)), [4, 42, 42, 6], none, none⟩,
    o1 5 (.lit [.i .i64] [.int .i64 (1)])])
  .ret))
  .skip))
 (.seq (.seq (.join [⟨65, [.b], false⟩] 73786967498745184256 none (.rg [o1 43 (.idx .nil),
   o1 44 (.load 3 [] 3 (.t 43) 1 false),
   o1 45 (.data (.bin .geq) [.t 44, .c (.int .i64 (0))]),
   o1 46 (.copy 45),
   o2 47 (.idx .nil) 3 true,
   o2 48 (.load 3 [] 3 (.t 47) 1 false) 3 true,
   o2 49 (.idx .nil) 3 true,
   o2 50 (.load 2 [] 0 (.t 49) 1 false) 3 true,
   o2 51 (.data (.bin .lss) [.t 48, .t 50]) 3 true,
   ⟨false, [], [], .pick 46 (.t 51) (.c (.bool false)), [52], (some 52), none⟩,
   o1 53 (.data .not [.t 52]),
   o1 54 (.copy 53),
   o2 55 (.idx .nil) 11 false,
   o2 56 (.load 3 [] 2 (.t 55) 1 false) 11 false,
   o2 57 (.idx .nil) 11 false,
   o2 58 (.load 3 [] 3 (.t 57) 1 false) 11 false,
   o2 59 (.data (.bin .eql) [.t 56, .t 58]) 11 false,
   o2 60 (.copy 59) 11 false,
   o2 61 (.idx .nil) 17 true,
   o2 62 (.load 3 [] 1 (.t 61) 1 false) 17 true,
   o2 63 (.data (.bin .neq) [.t 62, .c (.int .i64 (3))]) 17 true,
   ⟨false, [], [], .pick 60 (.t 63) (.c (.bool false)), [64], (some 64), some (11, false)⟩,
   ⟨false, [], [], .pick 54 (.c (.bool true)) (.t 64), [65], (some 65), none⟩]))
 (.cond (.t 65)
  (.seq (.rg [o1 66 (.load 6 [] 0 .nil 2 true),
    ⟨false, [66], [], .det 2 (.store 4 [] 0 .nil (.t 66)), [4, 66, 66, 6], none, none⟩,
    o1 5 (.lit [.i .i64] [.int .i64 (3)])])
  .ret)
  .skip))
 (.seq (.seq (.rg [o1 67 (.idx .nil),
   o1 68 (.load 3 [] 1 (.t 67) 1 false),
   o1 69 (.data (.bin .eql) [.t 68, .c (.int .i64 (3))])])
 (.cond (.t 69)
  (.seq (.seq (.rg [o1 70 (.load 2 [] 0 .nil 2 false),
    o1 71 (.idx .nil),
    o1 72 (.load 3 [] 2 (.t 71) 1 false),
    o1 73 (.idx .nil),
    o1 74 (.load 3 [] 3 (.t 73) 1 false),
    o3 75 34 [.t 70, .t 72, .t 74]])
  (.cond (.t 75)
   (.seq (.rg [o1 76 (.load 6 [] 0 .nil 2 true),
     ⟨false, [76], [], .det 2 (.store 4 [] 0 .nil (.t 76)), [4, 76, 76, 6], none, none⟩,
     o1 5 (.lit [.i .i64] [.int .i64 (1)])])
   .ret)
   .skip))
  (.seq (.rg [o1 77 (.load 6 [] 0 .nil 2 true),
    ⟨false, [77], [], .det 2 (.store 4 [] 0 .nil (.t 77)), [4, 77, 77, 6], none, none⟩,
    o1 5 (.lit [.i .i64] [.int .i64 (2)])])
  .ret))
  .skip))
 (.seq (.rg [⟨false, [], [1000000008], .det 1 (.load 2 [] 0 .nil 2 false), [79], (some 79), none⟩,
   ⟨false, [], [1000000008], .det 1 (.load 3 [] 0 .nil 4 false), [80], (some 80), none⟩,
   ⟨false, [], [1000000008], .call 1 36 [.t 80] .no, [81], (some 81), none⟩,
   ⟨false, [], [1000000008], .call 1 35 [.t 79, .t 81] .no, [82], (some 82), none⟩,
   ⟨false, [], [1000000008], .det 2 (.copy 82), [78, 82], (some 78), none⟩,
   ⟨false, [], [1000000008], .det 2 (.ext 78 0 2), [83, 78], (some 83), none⟩,
   ⟨false, [], [1000000008], .det 1 (.ext 78 2 1), [84], (some 84), none⟩,
   ⟨false, [], [], .det 2 (.a (.c [.i .i64, .sl [.i .i64, .i .i64]] [.int .i64 (0), .slice none 0 0])), [7, 1000000008], (some 7), none⟩,
   o4 2 [7, 83] (.store 7 [] 0 .nil (.t 83)),
   o1 8 (.copy 84)])
 (.seq (.join [⟨7, [.i .i64, .sl [.i .i64, .i .i64]], false⟩, ⟨8, [.b], false⟩] 39575395630904500663181377920 none (.seq (.rg [o1 85 (.idx .nil),
   o1 86 (.load 3 [] 1 (.t 85) 1 false),
   o1 87 (.data (.bin .eql) [.t 86, .c (.int .i64 (2))])])
 (.cond (.t 87)
  (.rg [o1 89 (.load 2 [] 0 .nil 2 false),
    o1 90 (.load 3 [] 0 .nil 4 false),
    o3 91 36 [.t 90],
    o3 92 37 [.t 89, .t 91],
    ⟨false, [], [], .det 2 (.copy 92), [88, 92], (some 88), none⟩,
    ⟨false, [], [], .det 2 (.ext 88 0 2), [93, 88], (some 93), none⟩,
    o1 94 (.ext 88 2 1),
    o4 2 [7, 93] (.store 7 [] 0 .nil (.t 93)),
    o1 8 (.copy 94)])
  .skip)))
 (.seq (.seq (.rg [o1 95 (.copy 8),
   o1 96 (.data .not [.t 95])])
 (.cond (.t 96)
  (.seq (.rg [o1 97 (.load 6 [] 0 .nil 2 true),
    ⟨false, [97], [], .det 2 (.store 4 [] 0 .nil (.t 97)), [4, 97, 97, 6], none, none⟩,
    o1 5 (.lit [.i .i64] [.int .i64 (2)])])
  .ret)
  .skip))
 (.seq (.rg [o1 98 (.load 7 [] 0 .nil 2 true),
   ⟨false, [98], [], .det 2 (.store 4 [] 0 .nil (.t 98)), [4, 98, 98, 7], none, none⟩,
   o1 5 (.lit [.i .i64] [.int .i64 (1)])])
 .ret))))))))))
def s_sModel : Sig := ⟨[.rd true [.d, .sl (.own none) [.d, .d]], .rd true [.d, .d, .d, .d]], (.tup [(true, 2), (false, 1)] [.d, .sl (.own none) [.d, .d], .d])⟩
noncomputable def E_sModel : TEnv := envOf [(24, p_sl01In), (34, p_sTogether), (36, p_sl12Edge), (35, p_sAddEdge), (37, p_sTakeEdge)]
noncomputable def f_sModel (n : Nat) : (Int × List (Int × Int)) × (Int × Int × Int × Int) → Option ((Int × List (Int × Int) × Int) × Unit) := runFn n E_sModel c_sModel [[.i .i64, .sl [.i .i64, .i .i64]], [.i .i64, .i .i64, .i .i64, .i .i64]] [.i .i64, .sl [.i .i64, .i .i64], .i .i64] [] [4, 5] .no
noncomputable def g_sModel := f_sModel BIG
noncomputable def p_sModel : TSp := ⟨s_sModel, [[.i .i64, .sl [.i .i64, .i .i64]], [.i .i64, .i .i64, .i .i64, .i .i64]], [.i .i64, .sl [.i .i64, .i .i64], .i .i64], [], Ou.j .no, g_sModel⟩
theorem k_sModel : chkW PG E_sModel 8 s_sModel (c_sModel.ht 99) .no = some (c_sModel.wc E_sModel, [4, 5]) := by kernel_rfl
theorem ok_sModel : p_sModel.Ok PG 8 := mkOk (env_cons ok_sl01In (env_cons ok_sTogether (env_cons ok_sl12Edge (env_cons ok_sAddEdge (env_cons ok_sTakeEdge (env_nil PG)))))) k_sModel (by kernel_rfl)
theorem e_sModel (n : Nat) (a0 : Int × List (Int × Int)) (a1 : Int × Int × Int × Int) : f_sModel n (a0, a1) =
  bif decide (0 + a0.2.length ≤ 4294967296) then
   Option.bind (Option.bind (g_sl01In (a1.2.1, (1 : Int), (4 : Int))) fun r0 =>
    bif !r0.1 then
     some true
    else bif decide ((0 : Int) ≤ a1.2.2.1) then
     some (!(decide (a1.2.2.1 < a0.1)))
    else some true : Option (Bool)) fun x1 =>
   bif x1 then
    some ((a0.1, [] ++ a0.2, (3 : Int)), ())
   else bif decide (a1.2.1 = (4 : Int)) then
    Option.bind (g_sl01In (a1.2.2.2, (1 : Int), (3 : Int))) fun r2 =>
    bif !r2.1 then
     some ((a0.1, [] ++ a0.2, (3 : Int)), ())
    else some ((a0.1, [] ++ a0.2, (1 : Int)), ())
   else Option.bind (bif decide ((0 : Int) ≤ a1.2.2.2) then
     bif !(decide (a1.2.2.2 < a0.1)) then
      some true
     else bif decide (a1.2.2.1 = a1.2.2.2) then
      some (!decide (a1.2.1 = (3 : Int)))
     else some false
    else some true : Option (Bool)) fun x3 =>
   bif x3 then
    some ((a0.1, [] ++ a0.2, (3 : Int)), ())
   else bif decide (a1.2.1 = (3 : Int)) then
    Option.bind (g_sTogether (a0, a1.2.2.1, a1.2.2.2)) fun r4 =>
    bif r4.1 then
     some ((a0.1, [] ++ a0.2, (1 : Int)), ())
    else some ((a0.1, [] ++ a0.2, (2 : Int)), ())
   else Option.bind (g_sl12Edge a1) fun r5 =>
   Option.bind (g_sAddEdge (a0, r5.1)) fun r6 =>
   Option.bind (bif decide (a1.2.1 = (2 : Int)) then
     Option.bind (g_sl12Edge a1) fun r7 =>
     Option.bind (g_sTakeEdge (a0, r7.1)) fun r8 =>
     some ((r8.1.1, r8.1.2.1), r8.1.2.2)
    else some ((r6.1.1, r6.1.2.1), r6.1.2.2) : Option ((Int × List (Int × Int)) × Bool)) fun x9 =>
   bif !x9.2 then
    some ((a0.1, [] ++ a0.2, (2 : Int)), ())
   else some ((x9.1.1, x9.1.2, (1 : Int)), ())
  else none := by kernel_rfl
/- laws.sameEdges -/
def c_lsameEdges : TC :=
 (.seq (.rg [o1 4 (.lit [.b] [.bool false])])
 (.seq (.seq (.rg [o1 6 (.copy 0),
   o1 7 (.len 6),
   o1 8 (.copy 1),
   o1 9 (.len 8),
   o1 10 (.data (.bin .neq) [.t 7, .t 9])])
 (.cond (.t 10)
  (.seq (.rg [o1 4 (.lit [.b] [.bool false])])
  .ret)
  .skip))
 (.seq (.join [] 67106864 (some [⟨4, [.b], false⟩]) (.seq (.rg [o1 5 (.lit [.i .i64] [.int .i64 (0)])])
 (.block 0 (.loop [⟨5, [.i .i64], false⟩] 67106864
  (.seq (.seq (.rg [o1 11 (.copy 5),
    o1 12 (.copy 0),
    o1 13 (.len 12),
    o1 14 (.data (.bin .lss) [.t 11, .t 13])])
  (.cond (.t 14)
   .skip
   (.exit 0)))
  (.seq (.block 1 (.seq (.rg [o1 17 (.copy 0),
    o1 18 (.copy 5),
    o1 21 (.copy 1),
    o1 22 (.copy 5),
    o1 19 (.index 17 (.t 18)),
    o1 20 (.load 17 [(0, 2)] 0 (.t 19) 2 false),
    o1 23 (.index 21 (.t 22)),
    o1 24 (.load 21 [(0, 2)] 0 (.t 23) 2 false),
    o1 25 (.eqA [.i, .i] (.t 20) (.t 24) true)])
  (.cond (.t 25)
   (.seq (.rg [o1 4 (.lit [.b] [.bool false])])
   .ret)
   .skip)))
  (.rg [o1 15 (.copy 5),
    o1 16 (.data (.bin .add) [.t 15, .c (.int .i64 (1))]),
    o1 5 (.copy 16)])))))))
 (.seq (.rg [o1 4 (.lit [.b] [.bool true])])
 .ret))))
def s_lsameEdges : Sig := ⟨[.rd false [.sl (.own none) [.d, .d]], .rd false [.sl (.own none) [.d, .d]]], (.one false [.d])⟩
noncomputable def E_lsameEdges : TEnv := envOf []
noncomputable def f_lsameEdges (n : Nat) : (List (Int × Int)) × (List (Int × Int)) → Option ((Bool) × Unit) := runFn n E_lsameEdges c_lsameEdges [[.sl [.i .i64, .i .i64]], [.sl [.i .i64, .i .i64]]] [.b] [] [4] .no
noncomputable def g_lsameEdges := f_lsameEdges BIG
noncomputable def p_lsameEdges : TSp := ⟨s_lsameEdges, [[.sl [.i .i64, .i .i64]], [.sl [.i .i64, .i .i64]]], [.b], [], Ou.j .no, g_lsameEdges⟩
theorem k_lsameEdges : chkW PG E_lsameEdges 9 s_lsameEdges (c_lsameEdges.ht 26) .no = some (c_lsameEdges.wc E_lsameEdges, [4]) := by kernel_rfl
theorem ok_lsameEdges : p_lsameEdges.Ok PG 9 := mkOk (env_nil PG) k_lsameEdges (by kernel_rfl)
theorem e_lsameEdges (n : Nat) (a0 : List (Int × Int)) (a1 : List (Int × Int)) : f_lsameEdges n (a0, a1) =
  bif !decide ((a0.length : Int) = (a1.length : Int)) then
   some (false, ())
  else Option.bind (loopT n (X := Int) (B := (Unit) ⊕ (Bool)) (fun self1 x0 =>
    bif decide (x0 < (a0.length : Int)) then
     bnd a0.length x0 fun n2 =>
     Option.bind a0[n2]? fun y3 =>
     bnd a1.length x0 fun n4 =>
     Option.bind a1[n4]? fun y5 =>
     bif !(decide (y3.1 = y5.1) && (decide (y3.2 = y5.2) && true)) then
      some (Sum.inr false)
     else self1 (IntKind.wrap .i64 (x0 + (1 : Int)))
    else some (Sum.inl ())) (0 : Int) : Option ((Unit) ⊕ (Bool))) fun y => match y with
  | .inl x6 =>
   some (true, ())
  | .inr x6 =>
   some (x6, ()) := by kernel_rfl
/- laws.FnModels -/
def c_lFnModels : TC :=
 (.seq (.rg [o1 2 (.lit [.b] [.bool false])])
 (.seq (.seq (.rg [o1 9 (.copy 0),
   o3 10 5 [.t 9]])
 (.cond (.t 10)
  (.seq (.rg [o1 2 (.lit [.b] [.bool true])])
  .ret)
  .skip))
 (.seq (.rg [o1 12 (.copy 0),
   o3 13 6 [.t 12],
   ⟨false, [], [], .det 2 (.copy 13), [11, 13], (some 11), none⟩,
   ⟨false, [], [], .det 2 (.ext 11 0 2), [14, 11], (some 14), none⟩,
   o1 15 (.ext 11 2 4),
   ⟨false, [], [], .det 2 (.a (.c [.i .i64, .sl [.i .i64, .i .i64]] [.int .i64 (0), .slice none 0 0])), [3, 1000000004], (some 3), none⟩,
   ⟨false, [], [], .det 2 (.a (.c [.i .i64, .i .i64, .i .i64, .i .i64] [.int .i64 (0), .int .i64 (0), .int .i64 (0), .int .i64 (0)])), [4, 1000000005], (some 4), none⟩,
   o4 2 [3, 14] (.store 3 [] 0 .nil (.t 14)),
   o4 1 [4] (.store 4 [] 0 .nil (.t 15))])
 (.seq (.rg [o1 17 (.load 3 [] 0 .nil 2 true),
   o1 18 (.load 4 [] 0 .nil 4 false),
   o3 19 7 [.t 17, .t 18],
   ⟨false, [], [], .det 2 (.copy 19), [16, 19], (some 16), none⟩,
   ⟨false, [], [], .det 2 (.ext 16 0 2), [20, 16], (some 20), none⟩,
   o1 21 (.ext 16 2 1),
   ⟨false, [], [], .det 2 (.a (.c [.i .i64, .sl [.i .i64, .i .i64]] [.int .i64 (0), .slice none 0 0])), [5, 1000000006], (some 5), none⟩,
   o4 2 [5, 20] (.store 5 [] 0 .nil (.t 20)),
   o1 6 (.copy 21)])
 (.seq (.rg [o1 23 (.load 3 [] 0 .nil 2 true),
   o1 24 (.load 4 [] 0 .nil 4 false),
   o3 25 8 [.t 23, .t 24],
   ⟨false, [], [], .det 2 (.copy 25), [22, 25], (some 22), none⟩,
   ⟨false, [], [], .det 2 (.ext 22 0 2), [26, 22], (some 26), none⟩,
   o1 27 (.ext 22 2 1),
   ⟨false, [], [], .det 2 (.a (.c [.i .i64, .sl [.i .i64, .i .i64]] [.int .i64 (0), .slice none 0 0])), [7, 1000000008], (some 7), none⟩,
   o4 2 [7, 26] (.store 7 [] 0 .nil (.t 26)),
   o1 8 (.copy 27)])
 (.seq (.seq (.join [⟨45, [.b], false⟩] 70368475742208 none (.rg [o1 28 (.copy 6),
   o1 29 (.copy 8),
   o1 30 (.data (.bin .neq) [.t 28, .t 29]),
   o1 31 (.copy 30),
   o2 32 (.idx .nil) 3 false,
   o2 33 (.load 5 [] 1 (.t 32) 1 true) 3 false,
   o2 34 (.idx .nil) 3 false,
   o2 35 (.load 7 [] 1 (.t 34) 1 true) 3 false,
   ⟨false, [], [], .call 1 9 [.t 33, .t 35] .no, [36], (some 36), some (3, false)⟩,
   o2 37 (.data .not [.t 36]) 3 false,
   ⟨false, [], [], .pick 31 (.c (.bool true)) (.t 37), [38], (some 38), none⟩,
   o1 39 (.copy 38),
   o2 40 (.idx .nil) 11 false,
   o2 41 (.load 5 [] 0 (.t 40) 1 false) 11 false,
   o2 42 (.idx .nil) 11 false,
   o2 43 (.load 3 [] 0 (.t 42) 1 false) 11 false,
   o2 44 (.data (.bin .neq) [.t 41, .t 43]) 11 false,
   ⟨false, [], [], .pick 39 (.c (.bool true)) (.t 44), [45], (some 45), none⟩]))
 (.cond (.t 45)
  (.seq (.rg [o1 2 (.lit [.b] [.bool false])])
  .ret)
  .skip))
 (.seq (.seq (.join [⟨57, [.b], false⟩] 288160007407534080 none (.rg [o1 46 (.copy 6),
   o1 47 (.data (.bin .neq) [.t 46, .c (.int .i64 (1))]),
   o1 48 (.copy 47),
   o2 49 (.idx .nil) 2 false,
   o2 50 (.load 4 [] 1 (.t 49) 1 false) 2 false,
   o2 51 (.data (.bin .eql) [.t 50, .c (.int .i64 (3))]) 2 false,
   ⟨false, [], [], .pick 48 (.c (.bool true)) (.t 51), [52], (some 52), none⟩,
   o1 53 (.copy 52),
   o2 54 (.idx .nil) 7 false,
   o2 55 (.load 4 [] 1 (.t 54) 1 false) 7 false,
   o2 56 (.data (.bin .eql) [.t 55, .c (.int .i64 (4))]) 7 false,
   ⟨false, [], [], .pick 53 (.c (.bool true)) (.t 56), [57], (some 57), none⟩]))
 (.cond (.t 57)
  (.seq (.rg [o1 58 (.idx .nil),
    o1 59 (.load 5 [] 1 (.t 58) 1 true),
    o1 60 (.idx .nil),
    o1 61 (.load 3 [] 1 (.t 60) 1 true),
    o3 62 9 [.t 59, .t 61],
    o1 2 (.copy 62)])
  .ret)
  .skip))
 (.seq (.join [⟨2, [.b], false⟩] 38685617004296096735821828 none (.rg [o1 63 (.load 5 [] 0 .nil 2 true),
   o3 64 10 [.t 63],
   o1 65 (.copy 64),
   o2 66 (.idx .nil) 2 true,
   o2 67 (.load 5 [] 1 (.t 66) 1 true) 2 true,
   o2 68 (.len 67) 2 true,
   o2 69 (.idx .nil) 2 true,
   o2 70 (.load 3 [] 1 (.t 69) 1 true) 2 true,
   o2 71 (.len 70) 2 true,
   o2 72 (.data (.bin .add) [.t 71, .c (.int .i64 (1))]) 2 true,
   o2 73 (.data (.bin .eql) [.t 68, .t 72]) 2 true,
   o2 74 (.copy 73) 2 true,
   o2 75 (.idx .nil) 11 false,
   o2 76 (.load 5 [] 1 (.t 75) 1 true) 11 false,
   o2 77 (.len 76) 11 false,
   o2 78 (.idx .nil) 11 false,
   o2 79 (.load 3 [] 1 (.t 78) 1 true) 11 false,
   o2 80 (.len 79) 11 false,
   o2 81 (.data (.bin .sub) [.t 80, .c (.int .i64 (1))]) 11 false,
   o2 82 (.data (.bin .eql) [.t 77, .t 81]) 11 false,
   ⟨false, [], [], .pick 74 (.c (.bool true)) (.t 82), [83], (some 83), some (2, true)⟩,
   ⟨false, [], [], .pick 65 (.t 83) (.c (.bool false)), [84], (some 84), none⟩,
   o1 2 (.copy 84)]))
 .ret))))))))
def s_lFnModels : Sig := ⟨[.rd false [.sl (.own none) [.d]]], (.one false [.d])⟩
noncomputable def E_lFnModels : TEnv := envOf [(5, p_lbig), (6, p_sDrawModel), (7, p_iModel), (8, p_sModel), (9, p_lsameEdges), (10, p_sGraphOk)]
noncomputable def f_lFnModels (n : Nat) : List (Int) → Option ((Bool) × Unit) := runFn n E_lFnModels c_lFnModels [[.sl [.i .u8]]] [.b] [] [2] .no
noncomputable def g_lFnModels := f_lFnModels BIG
noncomputable def p_lFnModels : TSp := ⟨s_lFnModels, [[.sl [.i .u8]]], [.b], [], Ou.j .no, g_lFnModels⟩
theorem k_lFnModels : chkW PG E_lFnModels 3 s_lFnModels (c_lFnModels.ht 85) .no = some (c_lFnModels.wc E_lFnModels, [2]) := by kernel_rfl
theorem ok_lFnModels : p_lFnModels.Ok PG 3 := mkOk (env_cons ok_lbig (env_cons ok_sDrawModel (env_cons ok_iModel (env_cons ok_sModel (env_cons ok_lsameEdges (env_cons ok_sGraphOk (env_nil PG))))))) k_lFnModels (by kernel_rfl)
theorem e_lFnModels (n : Nat) (a0 : List (Int)) : f_lFnModels n a0 =
  Option.bind (g_lbig a0) fun r0 =>
  bif r0.1 then
   some (true, ())
  else Option.bind (g_sDrawModel a0) fun r1 =>
  Option.bind (g_iModel ((r1.1.1, r1.1.2.1), r1.1.2.2)) fun r2 =>
  Option.bind (g_sModel ((r1.1.1, r1.1.2.1), r1.1.2.2)) fun r3 =>
  Option.bind (bif !decide (r2.1.2.2 = r3.1.2.2) then
    some true
   else Option.bind (g_lsameEdges (r2.1.2.1, r3.1.2.1)) fun r4 =>
   bif !r4.1 then
    some true
   else some (!decide (r2.1.1 = r1.1.1)) : Option (Bool)) fun x5 =>
  bif x5 then
   some (false, ())
  else Option.bind (bif !decide (r2.1.2.2 = (1 : Int)) then
    some true
   else bif decide (r1.1.2.2.2.1 = (3 : Int)) then
    some true
   else some (decide (r1.1.2.2.2.1 = (4 : Int))) : Option (Bool)) fun x6 =>
  bif x6 then
   Option.bind (g_lsameEdges (r2.1.2.1, r1.1.2.1)) fun r7 =>
   some (r7.1, ())
  else Option.bind (Option.bind (g_sGraphOk (r2.1.1, r2.1.2.1)) fun r8 =>
   bif r8.1 then
    bif decide ((r2.1.2.1.length : Int) = (IntKind.wrap .i64 ((r1.1.2.1.length : Int) + (1 : Int)))) then
     some true
    else some (decide ((r2.1.2.1.length : Int) = (IntKind.wrap .i64 ((r1.1.2.1.length : Int) - (1 : Int)))))
   else some false : Option (Bool)) fun x9 =>
  some (x9, ()) := by kernel_rfl
end Go.Fw
