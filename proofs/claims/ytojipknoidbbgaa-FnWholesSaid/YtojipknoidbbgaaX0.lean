/- The given functions, as what they compute; each is shown to be what the code does. No conditions. -/
import Derived.Test.YtojipknoidbbgaaG5
import Derived.Test.YtojipknoidbbgaaProg
set_option linter.unusedVariables false
set_option linter.unusedSimpArgs false
namespace Go.Fw
noncomputable abbrev PG := Go.Proofs.Try.prog
def o2 (d : Nat) (e : ED) (j : Nat) (b : Bool) : TO := ⟨false, [], [], .det 1 e, [d], some d, some (j, b)⟩
def o3 (d : Nat) (K : FuncId) (gets : List OY) : TO := ⟨false, [], [], .call 1 K gets .no, [d], some d, none⟩
def o4 (n : Nat) (ds : List Nat) (e : ED) : TO := ⟨false, [], [], .det n e, ds, none, none⟩
end Go.Fw
namespace Go.Fw
/- laws.big -/
def c_lbig : TC :=
 (.seq (.rg [o1 2 (.lit [.b] [.bool false])])
 (.seq (.rg [o1 3 (.copy 0),
   o1 4 (.len 3),
   o1 5 (.data (.bin .gtr) [.t 4, .c (.int .i64 (1048576))]),
   o1 2 (.copy 5)])
 .ret))
def s_lbig : Sig := ⟨[.rd false [.sl (.own none) [.d]]], (.one false [.d])⟩
noncomputable def E_lbig : TEnv := envOf []
noncomputable def f_lbig (n : Nat) : List (Int) → Option ((Bool) × Unit) := runFn n E_lbig c_lbig [[.sl [.i .u8]]] [.b] [] [2] .no
noncomputable def g_lbig := f_lbig BIG
noncomputable def p_lbig : TSp := ⟨s_lbig, [[.sl [.i .u8]]], [.b], [], Ou.j .no, g_lbig⟩
theorem k_lbig : chkW PG E_lbig 17 s_lbig (c_lbig.ht 6) .no = some (c_lbig.wc E_lbig, [2]) := by kernel_rfl
theorem ok_lbig : p_lbig.Ok PG 17 := mkOk (env_nil PG) k_lbig (by kernel_rfl)
theorem e_lbig (n : Nat) (a0 : List (Int)) : f_lbig n a0 =
  some (decide ((1048576 : Int) < (a0.length : Int)), ()) := by kernel_rfl
/- spec.l01New -/
def c_sl01New : TC :=
 (.seq (.rg [o1 2 (.nl)])
 (.seq (.rg [o1 5 (.copy 0),
   o1 6 (.len 5),
   o1 7 (.data (.bin .add) [.c (.int .i64 (13501)), .t 6]),
   o1 3 (.copy 7)])
 (.seq (.join [⟨3, [.i .i64], false⟩] 268435224 none (.seq (.rg [o1 4 (.lit [.i .i64] [.int .i64 (0)])])
 (.block 0 (.loop [⟨3, [.i .i64], false⟩, ⟨4, [.i .i64], false⟩] 268435224
  (.seq (.seq (.join [⟨15, [.b], false⟩] 65280 none (.rg [o1 8 (.copy 4),
    o1 9 (.copy 0),
    o1 10 (.len 9),
    o1 11 (.data (.bin .lss) [.t 8, .t 10]),
    o1 12 (.copy 11),
    o2 13 (.copy 4) 4 true,
    o2 14 (.data (.bin .lss) [.t 13, .c (.int .i64 (4000))]) 4 true,
    ⟨false, [], [], .pick 12 (.t 14) (.c (.bool false)), [15], (some 15), none⟩]))
  (.cond (.t 15)
   .skip
   (.exit 0)))
  (.seq (.block 1 (.rg [o1 18 (.copy 3),
    o1 19 (.data (.bin .mul) [.t 18, .c (.int .i64 (131))]),
    o1 20 (.copy 0),
    o1 21 (.copy 4),
    o1 22 (.index 20 (.t 21)),
    o1 23 (.load 20 [(0, 1)] 0 (.t 22) 1 false),
    o1 24 (.data (.conv .i64) [.t 23]),
    o1 25 (.data (.bin .add) [.t 19, .t 24]),
    o1 26 (.data (.bin .add) [.t 25, .c (.int .i64 (7))]),
    o1 27 (.data (.bin .and) [.t 26, .c (.int .i64 (1073741823))]),
    o1 3 (.copy 27)]))
  (.rg [o1 16 (.copy 4),
    o1 17 (.data (.bin .add) [.t 16, .c (.int .i64 (1))]),
    o1 4 (.copy 17)])))))))
 (.seq (.rg [o1 28 (.copy 0),
   o1 29 (.copy 3),
   o1 30 (.build [.sl [.i .u8], .i .i64, .i .i64] [(0, .t 28), (2, .t 29)]),
   o1 31 (.a (.t 30)),
   ⟨true, [], [], .det 2 (.copy 31), [2, 31], (some 2), none⟩])
 .ret))))
def s_sl01New : Sig := ⟨[.rd false [.sl (.own none) [.d]]], (.bx [.sl (.ro [0]) [.d], .d, .d])⟩
noncomputable def E_sl01New : TEnv := envOf []
noncomputable def f_sl01New (n : Nat) : List (Int) → Option ((List (Int) × Int × Int) × Unit) := runFn n E_sl01New c_sl01New [[.sl [.i .u8]]] [.sl [.i .u8], .i .i64, .i .i64] [] [2] .no
noncomputable def g_sl01New := f_sl01New BIG
noncomputable def p_sl01New : TSp := ⟨s_sl01New, [[.sl [.i .u8]]], [.sl [.i .u8], .i .i64, .i .i64], [], Ou.j .no, g_sl01New⟩
theorem k_sl01New : chkW PG E_sl01New 90 s_sl01New (c_sl01New.ht 32) .no = some (c_sl01New.wc E_sl01New, [2]) := by kernel_rfl
theorem ok_sl01New : p_sl01New.Ok PG 90 := mkOk (env_nil PG) k_sl01New (by kernel_rfl)
theorem e_sl01New (n : Nat) (a0 : List (Int)) : f_sl01New n a0 =
  Option.bind (loopT n (X := Int × Int) (B := Int) (fun self1 x0 =>
    Option.bind (bif decide (x0.2 < (a0.length : Int)) then
      some (decide (x0.2 < (4000 : Int)))
     else some false : Option (Bool)) fun x2 =>
    bif x2 then
     bnd a0.length x0.2 fun n3 =>
     Option.bind a0[n3]? fun y4 =>
     self1 (bits .and .i64 (IntKind.wrap .i64 ((IntKind.wrap .i64 ((IntKind.wrap .i64 (x0.1 * (131 : Int))) + (IntKind.wrap .i64 (y4)))) + (7 : Int))) (1073741823 : Int), IntKind.wrap .i64 (x0.2 + (1 : Int)))
    else some x0.1) (IntKind.wrap .i64 ((13501 : Int) + (a0.length : Int)), (0 : Int)) : Option (Int)) fun x5 =>
  some ((a0, (0 : Int), x5), ()) := by kernel_rfl
/- spec.l01Byte -/
def c_sl01Byte : TC :=
 (.seq (.rg [o1 2 (.lit [.i .i64] [.int .i64 (0)])])
 (.seq (.rg [o1 4 (.p0),
   o1 5 (.p0),
   o1 6 (.same 5),
   o1 7 (.idx (.t 6)),
   o1 8 (.load 0 [] 2 (.t 7) 1 false),
   o1 9 (.data (.bin .mul) [.t 8, .c (.int .i64 (6364136223846793005))]),
   o1 10 (.data (.bin .add) [.t 9, .c (.int .i64 (1442695040888963407))]),
   o1 11 (.same 4),
   o1 12 (.idx (.t 11)),
   o4 1 [0] (.store 0 [] 2 (.t 12) (.t 10))])
 (.seq (.rg [o1 13 (.p0),
   o1 14 (.same 13),
   o1 15 (.idx (.t 14)),
   o1 16 (.load 0 [] 2 (.t 15) 1 false),
   o1 17 (.data (.bin .shr) [.t 16, .c (.int .u64 (33))]),
   o1 18 (.p0),
   o1 19 (.same 18),
   o1 20 (.idx (.t 19)),
   o1 21 (.load 0 [] 2 (.t 20) 1 false),
   o1 22 (.data (.bin .shr) [.t 21, .c (.int .u64 (45))]),
   o1 23 (.data (.bin .xor) [.t 17, .t 22]),
   o1 24 (.data (.bin .and) [.t 23, .c (.int .i64 (255))]),
   o1 3 (.copy 24)])
 (.seq (.join [⟨3, [.i .i64], false⟩, ⟨0, [.sl [.i .u8], .i .i64, .i .i64], false⟩] 144115188042301449 none (.seq (.rg [o1 25 (.p0),
   o1 26 (.same 25),
   o1 27 (.idx (.t 26)),
   o1 28 (.load 0 [] 1 (.t 27) 1 false),
   o1 29 (.p0),
   o1 30 (.same 29),
   o1 31 (.idx (.t 30)),
   o1 32 (.load 0 [] 0 (.t 31) 1 false),
   o1 33 (.len 32),
   o1 34 (.data (.bin .lss) [.t 28, .t 33])])
 (.cond (.t 34)
  (.seq (.rg [o1 35 (.copy 3),
    o1 36 (.p0),
    o1 37 (.same 36),
    o1 38 (.idx (.t 37)),
    o1 39 (.load 0 [] 0 (.t 38) 1 false),
    o1 40 (.p0),
    o1 41 (.same 40),
    o1 42 (.idx (.t 41)),
    o1 43 (.load 0 [] 1 (.t 42) 1 false),
    o1 44 (.index 39 (.t 43)),
    o1 45 (.load 39 [(0, 1)] 0 (.t 44) 1 false),
    o1 46 (.data (.conv .i64) [.t 45]),
    o1 47 (.data (.bin .add) [.t 35, .t 46]),
    o1 48 (.data (.bin .and) [.t 47, .c (.int .i64 (255))]),
    o1 3 (.copy 48)])
  (.rg [o1 49 (.p0),
    o1 50 (.p0),
    o1 51 (.same 50),
    o1 52 (.idx (.t 51)),
    o1 53 (.load 0 [] 1 (.t 52) 1 false),
    o1 54 (.data (.bin .add) [.t 53, .c (.int .i64 (1))]),
    o1 55 (.same 49),
    o1 56 (.idx (.t 55)),
    o4 1 [0] (.store 0 [] 1 (.t 56) (.t 54))]))
  .skip)))
 (.seq (.rg [o1 57 (.copy 3),
   o1 2 (.copy 57)])
 .ret)))))
def s_sl01Byte : Sig := ⟨[.mp [.sl (.ro []) [.d], .d, .d]], (.one false [.d])⟩
noncomputable def E_sl01Byte : TEnv := envOf []
noncomputable def f_sl01Byte (n : Nat) : (List (Int) × Int × Int) → Option ((Int) × List (Int) × Int × Int) := runFn n E_sl01Byte c_sl01Byte [[.sl [.i .u8], .i .i64, .i .i64]] [.i .i64] [.sl [.i .u8], .i .i64, .i .i64] [2] (.mp 0)
noncomputable def g_sl01Byte := f_sl01Byte BIG
noncomputable def p_sl01Byte : TSp := ⟨s_sl01Byte, [[.sl [.i .u8], .i .i64, .i .i64]], [.i .i64], [.sl [.i .u8], .i .i64, .i .i64], Ou.j (.mp 0), g_sl01Byte⟩
theorem k_sl01Byte : chkW PG E_sl01Byte 103 s_sl01Byte (c_sl01Byte.ht 58) (.mp 0) = some (c_sl01Byte.wc E_sl01Byte, [2]) := by kernel_rfl
theorem ok_sl01Byte : p_sl01Byte.Ok PG 103 := mkOk (env_nil PG) k_sl01Byte (by kernel_rfl)
theorem e_sl01Byte (n : Nat) (a0 : List (Int) × Int × Int) : f_sl01Byte n a0 =
  bif decide ((33 : Int) < 0) then
   none
  else bif decide ((45 : Int) < 0) then
   none
  else Option.bind (bif decide (a0.2.1 < (a0.1.length : Int)) then
    bnd a0.1.length a0.2.1 fun n0 =>
    Option.bind a0.1[n0]? fun y1 =>
    some (bits .and .i64 (IntKind.wrap .i64 ((bits .and .i64 (bits .xor .i64 (Int.fdiv (IntKind.wrap .i64 ((IntKind.wrap .i64 (a0.2.2 * (6364136223846793005 : Int))) + (1442695040888963407 : Int))) (2 ^ (Nat.min (Int.toNat (33 : Int)) (IntKind.bits .i64)))) (Int.fdiv (IntKind.wrap .i64 ((IntKind.wrap .i64 (a0.2.2 * (6364136223846793005 : Int))) + (1442695040888963407 : Int))) (2 ^ (Nat.min (Int.toNat (45 : Int)) (IntKind.bits .i64))))) (255 : Int)) + (IntKind.wrap .i64 (y1)))) (255 : Int), (a0.1, IntKind.wrap .i64 (a0.2.1 + (1 : Int)), IntKind.wrap .i64 ((IntKind.wrap .i64 (a0.2.2 * (6364136223846793005 : Int))) + (1442695040888963407 : Int))))
   else some (bits .and .i64 (bits .xor .i64 (Int.fdiv (IntKind.wrap .i64 ((IntKind.wrap .i64 (a0.2.2 * (6364136223846793005 : Int))) + (1442695040888963407 : Int))) (2 ^ (Nat.min (Int.toNat (33 : Int)) (IntKind.bits .i64)))) (Int.fdiv (IntKind.wrap .i64 ((IntKind.wrap .i64 (a0.2.2 * (6364136223846793005 : Int))) + (1442695040888963407 : Int))) (2 ^ (Nat.min (Int.toNat (45 : Int)) (IntKind.bits .i64))))) (255 : Int), (a0.1, a0.2.1, IntKind.wrap .i64 ((IntKind.wrap .i64 (a0.2.2 * (6364136223846793005 : Int))) + (1442695040888963407 : Int)))) : Option (Int × (List (Int) × Int × Int))) fun x2 =>
  some (x2.1, x2.2) := by kernel_rfl
/- spec.l01Below -/
def c_sl01Below : TC :=
 (.seq (.rg [o1 4 (.lit [.i .i64] [.int .i64 (0)])])
 (.seq (.seq (.rg [o1 9 (.copy 1),
   o1 10 (.data (.bin .leq) [.t 9, .c (.int .i64 (0))])])
 (.cond (.t 10)
  (.seq (.rg [o1 4 (.lit [.i .i64] [.int .i64 (0)])])
  .ret)
  .skip))
 (.seq (.seq (.rg [o1 11 (.copy 1),
   o1 12 (.data (.bin .leq) [.t 11, .c (.int .i64 (256))])])
 (.cond (.t 12)
  (.seq (.rg [o1 13 (.p0),
    ⟨false, [], [], .call 2 103 [.t 0] (.mp 0), [14, 0], (some 14), none⟩,
    o1 15 (.copy 1),
    o1 16 (.data (.bin .rem) [.t 14, .t 15]),
    o1 4 (.copy 16)])
  .ret)
  .skip))
 (.seq (.rg [o1 17 (.p0),
   ⟨false, [], [], .call 2 103 [.t 0] (.mp 0), [18, 0], (some 18), none⟩,
   o1 5 (.copy 18)])
 (.seq (.rg [o1 19 (.p0),
   ⟨false, [], [], .call 2 103 [.t 0] (.mp 0), [20, 0], (some 20), none⟩,
   o1 6 (.copy 20)])
 (.seq (.rg [o1 21 (.p0),
   ⟨false, [], [], .call 2 103 [.t 0] (.mp 0), [22, 0], (some 22), none⟩,
   o1 7 (.copy 22)])
 (.seq (.rg [o1 23 (.p0),
   ⟨false, [], [], .call 2 103 [.t 0] (.mp 0), [24, 0], (some 24), none⟩,
   o1 8 (.copy 24)])
 (.seq (.rg [o1 25 (.copy 5),
   o1 26 (.data (.bin .mul) [.t 25, .c (.int .i64 (16777216))]),
   o1 27 (.copy 6),
   o1 28 (.data (.bin .mul) [.t 27, .c (.int .i64 (65536))]),
   o1 29 (.data (.bin .add) [.t 26, .t 28]),
   o1 30 (.copy 7),
   o1 31 (.data (.bin .mul) [.t 30, .c (.int .i64 (256))]),
   o1 32 (.data (.bin .add) [.t 29, .t 31]),
   o1 33 (.copy 8),
   o1 34 (.data (.bin .add) [.t 32, .t 33]),
   o1 35 (.copy 1),
   o1 36 (.data (.bin .rem) [.t 34, .t 35]),
   o1 4 (.copy 36)])
 .ret))))))))
def s_sl01Below : Sig := ⟨[.mp [.sl (.ro []) [.d], .d, .d], .rd false [.d]], (.one false [.d])⟩
noncomputable def E_sl01Below : TEnv := envOf [(103, p_sl01Byte)]
noncomputable def f_sl01Below (n : Nat) : (List (Int) × Int × Int) × Int → Option ((Int) × List (Int) × Int × Int) := runFn n E_sl01Below c_sl01Below [[.sl [.i .u8], .i .i64, .i .i64], [.i .i64]] [.i .i64] [.sl [.i .u8], .i .i64, .i .i64] [4] (.mp 0)
noncomputable def g_sl01Below := f_sl01Below BIG
noncomputable def p_sl01Below : TSp := ⟨s_sl01Below, [[.sl [.i .u8], .i .i64, .i .i64], [.i .i64]], [.i .i64], [.sl [.i .u8], .i .i64, .i .i64], Ou.j (.mp 0), g_sl01Below⟩
theorem k_sl01Below : chkW PG E_sl01Below 92 s_sl01Below (c_sl01Below.ht 37) (.mp 0) = some (c_sl01Below.wc E_sl01Below, [4]) := by kernel_rfl
theorem ok_sl01Below : p_sl01Below.Ok PG 92 := mkOk (env_cons ok_sl01Byte (env_nil PG)) k_sl01Below (by kernel_rfl)
theorem e_sl01Below (n : Nat) (a0 : List (Int) × Int × Int) (a1 : Int) : f_sl01Below n (a0, a1) =
  bif decide (a1 ≤ (0 : Int)) then
   some ((0 : Int), a0)
  else bif decide (a1 ≤ (256 : Int)) then
   Option.bind (g_sl01Byte a0) fun r0 =>
   bif decide (a1 = 0) then
    none
   else some (Int.tmod r0.1 a1, r0.2)
  else Option.bind (g_sl01Byte a0) fun r1 =>
  Option.bind (g_sl01Byte r1.2) fun r2 =>
  Option.bind (g_sl01Byte r2.2) fun r3 =>
  Option.bind (g_sl01Byte r3.2) fun r4 =>
  bif decide (a1 = 0) then
   none
  else some (Int.tmod (IntKind.wrap .i64 ((IntKind.wrap .i64 ((IntKind.wrap .i64 ((IntKind.wrap .i64 (r1.1 * (16777216 : Int))) + (IntKind.wrap .i64 (r2.1 * (65536 : Int))))) + (IntKind.wrap .i64 (r3.1 * (256 : Int))))) + r4.1)) a1, r4.2) := by kernel_rfl
/- spec.l05Edge -/
def c_sl05Edge : TC :=
 (.seq (.rg [⟨false, [], [], .det 2 (.a (.c [.i .i64, .i .i64] [.int .i64 (0), .int .i64 (0)])), [4, 1000000001], (some 4), none⟩])
 (.seq (.rg [o1 7 (.p0),
   o1 8 (.copy 1),
   ⟨false, [], [], .call 2 92 [.t 0, .t 8] (.mp 0), [9, 0], (some 9), none⟩,
   o1 5 (.copy 9)])
 (.seq (.rg [o1 10 (.p0),
   o1 11 (.copy 1),
   ⟨false, [], [], .call 2 92 [.t 0, .t 11] (.mp 0), [12, 0], (some 12), none⟩,
   o1 6 (.copy 12)])
 (.seq (.join [⟨6, [.i .i64], false⟩] 1040448 none (.seq (.rg [o1 13 (.copy 5),
   o1 14 (.copy 6),
   o1 15 (.data (.bin .eql) [.t 13, .t 14])])
 (.cond (.t 15)
  (.rg [o1 16 (.copy 5),
    o1 17 (.data (.bin .add) [.t 16, .c (.int .i64 (1))]),
    o1 18 (.copy 1),
    o1 19 (.data (.bin .rem) [.t 17, .t 18]),
    o1 6 (.copy 19)])
  .skip)))
 (.seq (.seq (.rg [o1 20 (.copy 5),
   o1 21 (.copy 6),
   o1 22 (.data (.bin .gtr) [.t 20, .t 21])])
 (.cond (.t 22)
  (.seq (.rg [o1 23 (.copy 6),
    o1 24 (.copy 5),
    o1 25 (.build [.i .i64, .i .i64] [(0, .t 23), (1, .t 24)]),
    o4 1 [4] (.store 4 [] 0 .nil (.t 25))])
  .ret)
  .skip))
 (.seq (.rg [o1 26 (.copy 5),
   o1 27 (.copy 6),
   o1 28 (.build [.i .i64, .i .i64] [(0, .t 26), (1, .t 27)]),
   o4 1 [4] (.store 4 [] 0 .nil (.t 28))])
 .ret))))))
def s_sl05Edge : Sig := ⟨[.mp [.sl (.ro []) [.d], .d, .d], .rd false [.d]], (.one true [.d, .d])⟩
noncomputable def E_sl05Edge : TEnv := envOf [(92, p_sl01Below)]
noncomputable def f_sl05Edge (n : Nat) : (List (Int) × Int × Int) × Int → Option ((Int × Int) × List (Int) × Int × Int) := runFn n E_sl05Edge c_sl05Edge [[.sl [.i .u8], .i .i64, .i .i64], [.i .i64]] [.i .i64, .i .i64] [.sl [.i .u8], .i .i64, .i .i64] [4] (.mp 0)
noncomputable def g_sl05Edge := f_sl05Edge BIG
noncomputable def p_sl05Edge : TSp := ⟨s_sl05Edge, [[.sl [.i .u8], .i .i64, .i .i64], [.i .i64]], [.i .i64, .i .i64], [.sl [.i .u8], .i .i64, .i .i64], Ou.j (.mp 0), g_sl05Edge⟩
theorem k_sl05Edge : chkW PG E_sl05Edge 93 s_sl05Edge (c_sl05Edge.ht 29) (.mp 0) = some (c_sl05Edge.wc E_sl05Edge, [4]) := by kernel_rfl
theorem ok_sl05Edge : p_sl05Edge.Ok PG 93 := mkOk (env_cons ok_sl01Below (env_nil PG)) k_sl05Edge (by kernel_rfl)
theorem e_sl05Edge (n : Nat) (a0 : List (Int) × Int × Int) (a1 : Int) : f_sl05Edge n (a0, a1) =
  Option.bind (g_sl01Below (a0, a1)) fun r0 =>
  Option.bind (g_sl01Below (r0.2, a1)) fun r1 =>
  Option.bind (bif decide (r0.1 = r1.1) then
    bif decide (a1 = 0) then
     none
    else some (Int.tmod (IntKind.wrap .i64 (r0.1 + (1 : Int))) a1)
   else some r1.1 : Option (Int)) fun x2 =>
  bif decide (x2 < r0.1) then
   some ((x2, r0.1), r1.2)
  else some ((r0.1, x2), r1.2) := by kernel_rfl
/- spec.l05Has -/
def c_sl05Has : TC :=
 (.seq (.rg [o1 3 (.a (.t 1)),
   o1 4 (.lit [.b] [.bool false])])
 (.seq (.join [] 262128 (some [⟨4, [.b], false⟩]) (.seq (.rg [o1 5 (.lit [.i .i64] [.int .i64 (0)])])
 (.block 0 (.loop [⟨5, [.i .i64], false⟩] 262128
  (.seq (.seq (.rg [o1 6 (.copy 5),
    o1 7 (.copy 0),
    o1 8 (.len 7),
    o1 9 (.data (.bin .lss) [.t 6, .t 8])])
  (.cond (.t 9)
   .skip
   (.exit 0)))
  (.seq (.block 1 (.seq (.rg [o1 12 (.copy 0),
    o1 13 (.copy 5),
    o1 14 (.index 12 (.t 13)),
    o1 15 (.load 12 [(0, 2)] 0 (.t 14) 2 false),
    o1 16 (.load 3 [] 0 .nil 2 false),
    o1 17 (.eqA [.i, .i] (.t 15) (.t 16) false)])
  (.cond (.t 17)
   (.seq (.rg [o1 4 (.lit [.b] [.bool true])])
   .ret)
   .skip)))
  (.rg [o1 10 (.copy 5),
    o1 11 (.data (.bin .add) [.t 10, .c (.int .i64 (1))]),
    o1 5 (.copy 11)])))))))
 (.seq (.rg [o1 4 (.lit [.b] [.bool false])])
 .ret)))
def s_sl05Has : Sig := ⟨[.rd false [.sl (.own none) [.d, .d]], .rd true [.d, .d]], (.one false [.d])⟩
noncomputable def E_sl05Has : TEnv := envOf []
noncomputable def f_sl05Has (n : Nat) : (List (Int × Int)) × (Int × Int) → Option ((Bool) × Unit) := runFn n E_sl05Has c_sl05Has [[.sl [.i .i64, .i .i64]], [.i .i64, .i .i64]] [.b] [] [4] .no
noncomputable def g_sl05Has := f_sl05Has BIG
noncomputable def p_sl05Has : TSp := ⟨s_sl05Has, [[.sl [.i .i64, .i .i64]], [.i .i64, .i .i64]], [.b], [], Ou.j .no, g_sl05Has⟩
theorem k_sl05Has : chkW PG E_sl05Has 112 s_sl05Has (c_sl05Has.ht 18) .no = some (c_sl05Has.wc E_sl05Has, [4]) := by kernel_rfl
theorem ok_sl05Has : p_sl05Has.Ok PG 112 := mkOk (env_nil PG) k_sl05Has (by kernel_rfl)
theorem e_sl05Has (n : Nat) (a0 : List (Int × Int)) (a1 : Int × Int) : f_sl05Has n (a0, a1) =
  Option.bind (loopT n (X := Int) (B := (Unit) ⊕ (Bool)) (fun self1 x0 =>
    bif decide (x0 < (a0.length : Int)) then
     bnd a0.length x0 fun n2 =>
     Option.bind a0[n2]? fun y3 =>
     bif (decide (y3.1 = a1.1) && (decide (y3.2 = a1.2) && true)) then
      some (Sum.inr true)
     else self1 (IntKind.wrap .i64 (x0 + (1 : Int)))
    else some (Sum.inl ())) (0 : Int) : Option ((Unit) ⊕ (Bool))) fun y => match y with
  | .inl x4 =>
   some (false, ())
  | .inr x4 =>
   some (x4, ()) := by kernel_rfl
/- spec.HasEdge -/
def c_sHasEdge : TC :=
 (.seq (.rg [o1 2 (.a (.t 0)),
   o1 3 (.a (.t 1)),
   o1 4 (.lit [.b] [.bool false])])
 (.seq (.rg [o1 5 (.idx .nil),
   o1 6 (.load 2 [] 1 (.t 5) 1 false),
   o1 7 (.load 3 [] 0 .nil 2 false),
   o3 8 112 [.t 6, .t 7],
   o1 4 (.copy 8)])
 .ret))
def s_sHasEdge : Sig := ⟨[.rd true [.d, .sl (.own none) [.d, .d]], .rd true [.d, .d]], (.one false [.d])⟩
noncomputable def E_sHasEdge : TEnv := envOf [(112, p_sl05Has)]
noncomputable def f_sHasEdge (n : Nat) : (Int × List (Int × Int)) × (Int × Int) → Option ((Bool) × Unit) := runFn n E_sHasEdge c_sHasEdge [[.i .i64, .sl [.i .i64, .i .i64]], [.i .i64, .i .i64]] [.b] [] [4] .no
noncomputable def g_sHasEdge := f_sHasEdge BIG
noncomputable def p_sHasEdge : TSp := ⟨s_sHasEdge, [[.i .i64, .sl [.i .i64, .i .i64]], [.i .i64, .i .i64]], [.b], [], Ou.j .no, g_sHasEdge⟩
theorem k_sHasEdge : chkW PG E_sHasEdge 36 s_sHasEdge (c_sHasEdge.ht 9) .no = some (c_sHasEdge.wc E_sHasEdge, [4]) := by kernel_rfl
theorem ok_sHasEdge : p_sHasEdge.Ok PG 36 := mkOk (env_cons ok_sl05Has (env_nil PG)) k_sHasEdge (by kernel_rfl)
theorem e_sHasEdge (n : Nat) (a0 : Int × List (Int × Int)) (a1 : Int × Int) : f_sHasEdge n (a0, a1) =
  Option.bind (g_sl05Has (a0.2, a1)) fun r0 =>
  some (r0.1, ()) := by kernel_rfl
/- spec.l05Less -/
def c_sl05Less : TC :=
 (.seq (.rg [o1 2 (.a (.t 0)),
   o1 3 (.a (.t 1)),
   o1 4 (.lit [.b] [.bool false])])
 (.seq (.join [⟨4, [.b], false⟩] 16777200 none (.rg [o1 5 (.idx .nil),
   o1 6 (.load 2 [] 0 (.t 5) 1 false),
   o1 7 (.idx .nil),
   o1 8 (.load 3 [] 0 (.t 7) 1 false),
   o1 9 (.data (.bin .lss) [.t 6, .t 8]),
   o1 10 (.copy 9),
   o2 11 (.idx .nil) 5 false,
   o2 12 (.load 2 [] 0 (.t 11) 1 false) 5 false,
   o2 13 (.idx .nil) 5 false,
   o2 14 (.load 3 [] 0 (.t 13) 1 false) 5 false,
   o2 15 (.data (.bin .eql) [.t 12, .t 14]) 5 false,
   o2 16 (.copy 15) 5 false,
   o2 17 (.idx .nil) 11 true,
   o2 18 (.load 2 [] 1 (.t 17) 1 false) 11 true,
   o2 19 (.idx .nil) 11 true,
   o2 20 (.load 3 [] 1 (.t 19) 1 false) 11 true,
   o2 21 (.data (.bin .lss) [.t 18, .t 20]) 11 true,
   ⟨false, [], [], .pick 16 (.t 21) (.c (.bool false)), [22], (some 22), some (5, false)⟩,
   ⟨false, [], [], .pick 10 (.c (.bool true)) (.t 22), [23], (some 23), none⟩,
   o1 4 (.copy 23)]))
 .ret))
def s_sl05Less : Sig := ⟨[.rd true [.d, .d], .rd true [.d, .d]], (.one false [.d])⟩
noncomputable def E_sl05Less : TEnv := envOf []
noncomputable def f_sl05Less (n : Nat) : (Int × Int) × (Int × Int) → Option ((Bool) × Unit) := runFn n E_sl05Less c_sl05Less [[.i .i64, .i .i64], [.i .i64, .i .i64]] [.b] [] [4] .no
noncomputable def g_sl05Less := f_sl05Less BIG
noncomputable def p_sl05Less : TSp := ⟨s_sl05Less, [[.i .i64, .i .i64], [.i .i64, .i .i64]], [.b], [], Ou.j .no, g_sl05Less⟩
theorem k_sl05Less : chkW PG E_sl05Less 305 s_sl05Less (c_sl05Less.ht 24) .no = some (c_sl05Less.wc E_sl05Less, [4]) := by kernel_rfl
theorem ok_sl05Less : p_sl05Less.Ok PG 305 := mkOk (env_nil PG) k_sl05Less (by kernel_rfl)
theorem e_sl05Less (n : Nat) (a0 : Int × Int) (a1 : Int × Int) : f_sl05Less n (a0, a1) =
  Option.bind (bif decide (a0.1 < a1.1) then
    some true
   else bif decide (a0.1 = a1.1) then
    some (decide (a0.2 < a1.2))
   else some false : Option (Bool)) fun x0 =>
  some (x0, ()) := by kernel_rfl
/- spec.l05Put -/
def c_sl05Put : TC :=
 (.seq (.rg [o1 3 (.a (.t 1)),
   o1 4 (.lit [.sl [.i .i64, .i .i64]] [.slice none 0 0])])
 (.seq (.rg [o1 8 (.sli [.i .i64, .i .i64] []),
   ⟨false, [], [], .det 2 (.copy 8), [5, 8], (some 5), none⟩])
 (.seq (.join [⟨5, [.sl [.i .i64, .i .i64]], false⟩] 268435040 none (.seq (.rg [o1 6 (.lit [.i .i64] [.int .i64 (0)])])
 (.block 0 (.loop [⟨5, [.sl [.i .i64, .i .i64]], false⟩, ⟨6, [.i .i64], false⟩] 268435040
  (.seq (.seq (.rg [o1 9 (.copy 6),
    o1 10 (.copy 0),
    o1 11 (.len 10),
    o1 12 (.data (.bin .lss) [.t 9, .t 11])])
  (.cond (.t 12)
   .skip
   (.exit 0)))
  (.seq (.join [⟨5, [.sl [.i .i64, .i .i64]], false⟩] 268402720 none (.block 1 (.seq (.rg [o1 15 (.copy 0),
    o1 16 (.copy 6),
    o1 17 (.index 15 (.t 16)),
    o1 18 (.load 15 [(0, 2)] 0 (.t 17) 2 false),
    o1 19 (.load 3 [] 0 .nil 2 false),
    o3 20 305 [.t 18, .t 19]])
  (.cond (.t 20)
   (.rg [⟨false, [], [], .det 2 (.copy 5), [21, 5], (some 21), none⟩,
     o1 22 (.copy 0),
     o1 23 (.copy 6),
     o1 24 (.index 22 (.t 23)),
     o1 25 (.load 22 [(0, 2)] 0 (.t 24) 2 false),
     o1 26 (.sli [.i .i64, .i .i64] [.t 25]),
     ⟨false, [], [], .det 2 (.app (some 21) 26), [27, 21], (some 27), none⟩,
     ⟨false, [], [], .det 2 (.copy 27), [5, 27], (some 5), none⟩])
   .skip))))
  (.rg [o1 13 (.copy 6),
    o1 14 (.data (.bin .add) [.t 13, .c (.int .i64 (1))]),
    o1 6 (.copy 14)])))))))
 (.seq (.rg [⟨false, [], [], .det 2 (.copy 5), [28, 5], (some 28), none⟩,
   o1 29 (.load 3 [] 0 .nil 2 false),
   o1 30 (.sli [.i .i64, .i .i64] [.t 29]),
   ⟨false, [], [], .det 2 (.app (some 28) 30), [31, 28], (some 31), none⟩,
   ⟨false, [], [], .det 2 (.copy 31), [5, 31], (some 5), none⟩])
 (.seq (.join [⟨5, [.sl [.i .i64, .i .i64]], false⟩] 2251795518718112 none (.seq (.rg [o1 7 (.lit [.i .i64] [.int .i64 (0)])])
 (.block 2 (.loop [⟨5, [.sl [.i .i64, .i .i64]], false⟩, ⟨7, [.i .i64], false⟩] 2251795518718112
  (.seq (.seq (.rg [o1 32 (.copy 7),
    o1 33 (.copy 0),
    o1 34 (.len 33),
    o1 35 (.data (.bin .lss) [.t 32, .t 34])])
  (.cond (.t 35)
   .skip
   (.exit 2)))
  (.seq (.join [⟨5, [.sl [.i .i64, .i .i64]], false⟩] 2251524935778336 none (.block 3 (.seq (.rg [o1 38 (.load 3 [] 0 .nil 2 false),
    o1 39 (.copy 0),
    o1 40 (.copy 7),
    o1 41 (.index 39 (.t 40)),
    o1 42 (.load 39 [(0, 2)] 0 (.t 41) 2 false),
    o3 43 305 [.t 38, .t 42]])
  (.cond (.t 43)
   (.rg [⟨false, [], [], .det 2 (.copy 5), [44, 5], (some 44), none⟩,
     o1 45 (.copy 0),
     o1 46 (.copy 7),
     o1 47 (.index 45 (.t 46)),
     o1 48 (.load 45 [(0, 2)] 0 (.t 47) 2 false),
     o1 49 (.sli [.i .i64, .i .i64] [.t 48]),
     ⟨false, [], [], .det 2 (.app (some 44) 49), [50, 44], (some 50), none⟩,
     ⟨false, [], [], .det 2 (.copy 50), [5, 50], (some 5), none⟩])
   .skip))))
  (.rg [o1 36 (.copy 7),
    o1 37 (.data (.bin .add) [.t 36, .c (.int .i64 (1))]),
    o1 7 (.copy 37)])))))))
 (.seq (.rg [⟨false, [], [], .det 2 (.copy 5), [51, 5], (some 51), none⟩,
   ⟨false, [], [], .det 2 (.copy 51), [4, 51], (some 4), none⟩])
 .ret))))))
def s_sl05Put : Sig := ⟨[.rd false [.sl (.own none) [.d, .d]], .rd true [.d, .d]], (.one false [.sl (.own none) [.d, .d]])⟩
noncomputable def E_sl05Put : TEnv := envOf [(305, p_sl05Less)]
noncomputable def f_sl05Put (n : Nat) : (List (Int × Int)) × (Int × Int) → Option ((List (Int × Int)) × Unit) := runFn n E_sl05Put c_sl05Put [[.sl [.i .i64, .i .i64]], [.i .i64, .i .i64]] [.sl [.i .i64, .i .i64]] [] [4] .no
noncomputable def g_sl05Put := f_sl05Put BIG
noncomputable def p_sl05Put : TSp := ⟨s_sl05Put, [[.sl [.i .i64, .i .i64]], [.i .i64, .i .i64]], [.sl [.i .i64, .i .i64]], [], Ou.j .no, g_sl05Put⟩
theorem k_sl05Put : chkW PG E_sl05Put 231 s_sl05Put (c_sl05Put.ht 52) .no = some (c_sl05Put.wc E_sl05Put, [4]) := by kernel_rfl
theorem ok_sl05Put : p_sl05Put.Ok PG 231 := mkOk (env_cons ok_sl05Less (env_nil PG)) k_sl05Put (by kernel_rfl)
theorem e_sl05Put (n : Nat) (a0 : List (Int × Int)) (a1 : Int × Int) : f_sl05Put n (a0, a1) =
  Option.bind (loopT n (X := (List (Int × Int)) × Int) (B := (List (Int × Int))) (fun self1 x0 =>
    bif decide (x0.2 < (a0.length : Int)) then
     Option.bind (bnd a0.length x0.2 fun n2 =>
      Option.bind a0[n2]? fun y3 =>
      Option.bind (g_sl05Less (y3, a1)) fun r4 =>
      bif r4.1 then
       bnd a0.length x0.2 fun n5 =>
       Option.bind a0[n5]? fun y6 =>
       bif decide (x0.1.length + [y6].length ≤ 4294967296) then
        some (x0.1 ++ [y6])
       else none
      else some x0.1 : Option ((List (Int × Int)))) fun x7 =>
     self1 (x7, IntKind.wrap .i64 (x0.2 + (1 : Int)))
    else some x0.1) ([], (0 : Int)) : Option ((List (Int × Int)))) fun x8 =>
  bif decide (x8.length + [a1].length ≤ 4294967296) then
   Option.bind (loopT n (X := (List (Int × Int)) × Int) (B := (List (Int × Int))) (fun self10 x9 =>
     bif decide (x9.2 < (a0.length : Int)) then
      Option.bind (bnd a0.length x9.2 fun n11 =>
       Option.bind a0[n11]? fun y12 =>
       Option.bind (g_sl05Less (a1, y12)) fun r13 =>
       bif r13.1 then
        bnd a0.length x9.2 fun n14 =>
        Option.bind a0[n14]? fun y15 =>
        bif decide (x9.1.length + [y15].length ≤ 4294967296) then
         some (x9.1 ++ [y15])
        else none
       else some x9.1 : Option ((List (Int × Int)))) fun x16 =>
      self10 (x16, IntKind.wrap .i64 (x9.2 + (1 : Int)))
     else some x9.1) (x8 ++ [a1], (0 : Int)) : Option ((List (Int × Int)))) fun x17 =>
   some (x17, ())
  else none := by kernel_rfl
/- spec.l05Graph -/
def c_sl05Graph : TC :=
 (.seq (.rg [⟨false, [], [], .det 2 (.a (.c [.i .i64, .sl [.i .i64, .i .i64]] [.int .i64 (0), .slice none 0 0])), [2, 1000000001], (some 2), none⟩])
 (.seq (.rg [o1 6 (.p0),
   ⟨false, [], [], .call 2 92 [.t 0, .c [.i .i64] [.int .i64 (11)]] (.mp 0), [7, 0], (some 7), none⟩,
   o1 8 (.data (.bin .add) [.c (.int .i64 (2)), .t 7]),
   o1 9 (.build [.i .i64, .sl [.i .i64, .i .i64]] [(0, .t 8)]),
   ⟨false, [], [], .det 2 (.a (.c [.i .i64, .sl [.i .i64, .i .i64]] [.int .i64 (0), .slice none 0 0])), [3, 1000000001], (some 3), none⟩,
   o4 2 [3, 9] (.store 3 [] 0 .nil (.t 9))])
 (.seq (.join [⟨0, [.sl [.i .u8], .i .i64, .i .i64], false⟩, ⟨3, [.i .i64, .sl [.i .i64, .i .i64]], false⟩] 536869945 none (.seq (.rg [o1 4 (.lit [.i .i64] [.int .i64 (0)])])
 (.block 0 (.loop [⟨0, [.sl [.i .u8], .i .i64, .i .i64], false⟩, ⟨3, [.i .i64, .sl [.i .i64, .i .i64]], false⟩, ⟨4, [.i .i64], false⟩] 536869945
  (.seq (.seq (.rg [o1 10 (.copy 4),
    o1 11 (.p0),
    ⟨false, [], [], .call 2 92 [.t 0, .c [.i .i64] [.int .i64 (16)]] (.mp 0), [12, 0], (some 12), none⟩,
    o1 13 (.data (.bin .lss) [.t 10, .t 12])])
  (.cond (.t 13)
   .skip
   (.exit 0)))
  (.seq (.join [⟨0, [.sl [.i .u8], .i .i64, .i .i64], false⟩, ⟨3, [.i .i64, .sl [.i .i64, .i .i64]], false⟩] 536805417 none (.block 1 (.seq (.rg [o1 16 (.p0),
    o1 17 (.idx .nil),
    o1 18 (.load 3 [] 0 (.t 17) 1 false),
    ⟨false, [], [], .call 2 93 [.t 0, .t 18] (.mp 0), [19, 0], (some 19), none⟩,
    ⟨false, [], [], .det 2 (.a (.c [.i .i64, .i .i64] [.int .i64 (0), .int .i64 (0)])), [5, 1000000001], (some 5), none⟩,
    o4 1 [5] (.store 5 [] 0 .nil (.t 19))])
  (.seq (.rg [o1 20 (.load 3 [] 0 .nil 2 true),
    o1 21 (.load 5 [] 0 .nil 2 false),
    o3 22 36 [.t 20, .t 21],
    o1 23 (.data .not [.t 22])])
  (.cond (.t 23)
   (.rg [o1 24 (.idx .nil),
     o1 25 (.load 3 [] 1 (.t 24) 1 true),
     o1 26 (.load 5 [] 0 .nil 2 false),
     o3 27 231 [.t 25, .t 26],
     o1 28 (.idx .nil),
     o4 2 [3, 27, 20, 25] (.store 3 [] 1 (.t 28) (.t 27))])
   .skip)))))
  (.rg [o1 14 (.copy 4),
    o1 15 (.data (.bin .add) [.t 14, .c (.int .i64 (1))]),
    o1 4 (.copy 15)])))))))
 (.seq (.rg [o1 29 (.load 3 [] 0 .nil 2 true),
   ⟨false, [29], [], .det 2 (.store 2 [] 0 .nil (.t 29)), [2, 29, 29, 3], none, none⟩])
 .ret))))
def s_sl05Graph : Sig := ⟨[.mp [.sl (.ro []) [.d], .d, .d]], (.one true [.d, .sl (.own none) [.d, .d]])⟩
noncomputable def E_sl05Graph : TEnv := envOf [(92, p_sl01Below), (93, p_sl05Edge), (36, p_sHasEdge), (231, p_sl05Put)]
noncomputable def f_sl05Graph (n : Nat) : (List (Int) × Int × Int) → Option ((Int × List (Int × Int)) × List (Int) × Int × Int) := runFn n E_sl05Graph c_sl05Graph [[.sl [.i .u8], .i .i64, .i .i64]] [.i .i64, .sl [.i .i64, .i .i64]] [.sl [.i .u8], .i .i64, .i .i64] [2] (.mp 0)
noncomputable def g_sl05Graph := f_sl05Graph BIG
noncomputable def p_sl05Graph : TSp := ⟨s_sl05Graph, [[.sl [.i .u8], .i .i64, .i .i64]], [.i .i64, .sl [.i .i64, .i .i64]], [.sl [.i .u8], .i .i64, .i .i64], Ou.j (.mp 0), g_sl05Graph⟩
theorem k_sl05Graph : chkW PG E_sl05Graph 106 s_sl05Graph (c_sl05Graph.ht 30) (.mp 0) = some (c_sl05Graph.wc E_sl05Graph, [2]) := by kernel_rfl
theorem ok_sl05Graph : p_sl05Graph.Ok PG 106 := mkOk (env_cons ok_sl01Below (env_cons ok_sl05Edge (env_cons ok_sHasEdge (env_cons ok_sl05Put (env_nil PG))))) k_sl05Graph (by kernel_rfl)
theorem e_sl05Graph (n : Nat) (a0 : List (Int) × Int × Int) : f_sl05Graph n a0 =
  Option.bind (g_sl01Below (a0, (11 : Int))) fun r0 =>
  Option.bind (loopT n (X := (List (Int) × Int × Int) × (Int × List (Int × Int)) × Int) (B := (List (Int) × Int × Int) × (Int × List (Int × Int))) (fun self2 x1 =>
    Option.bind (g_sl01Below (x1.1, (16 : Int))) fun r3 =>
    bif decide (x1.2.2 < r3.1) then
     Option.bind (Option.bind (g_sl05Edge (r3.2, x1.2.1.1)) fun r4 =>
      Option.bind (g_sHasEdge (x1.2.1, r4.1)) fun r5 =>
      bif !r5.1 then
       Option.bind (g_sl05Put (x1.2.1.2, r4.1)) fun r6 =>
       some (r4.2, (x1.2.1.1, r6.1))
      else some (r4.2, x1.2.1) : Option ((List (Int) × Int × Int) × (Int × List (Int × Int)))) fun x7 =>
     self2 (x7.1, x7.2, IntKind.wrap .i64 (x1.2.2 + (1 : Int)))
    else some (r3.2, x1.2.1)) (r0.2, (IntKind.wrap .i64 ((2 : Int) + r0.1), []), (0 : Int)) : Option ((List (Int) × Int × Int) × (Int × List (Int × Int)))) fun x8 =>
  some (x8.2, x8.1) := by kernel_rfl
/- spec.DrawRightGraph -/
def c_sDrawRightGraph : TC :=
 (.seq (.rg [⟨false, [], [], .det 2 (.a (.c [.i .i64, .sl [.i .i64, .i .i64]] [.int .i64 (0), .slice none 0 0])), [2, 1000000001], (some 2), none⟩,
   ⟨false, [], [], .det 2 (.a (.c [.i .i64, .i .i64] [.int .i64 (0), .int .i64 (0)])), [3, 1000000001], (some 3), none⟩])
 (.seq (.rg [o1 6 (.copy 0),
   o3 7 90 [.t 6],
   o1 4 (.p0)])
 (.seq (.rg [o1 8 (.same 4),
   ⟨false, [], [], .call 2 106 [.t 7] (.mp 0), [9, 7], (some 9), none⟩,
   ⟨false, [], [], .det 2 (.a (.c [.i .i64, .sl [.i .i64, .i .i64]] [.int .i64 (0), .slice none 0 0])), [5, 1000000001], (some 5), none⟩,
   o4 2 [5, 9] (.store 5 [] 0 .nil (.t 9))])
 (.seq (.rg [⟨false, [], [7], .det 1 (.load 5 [] 0 .nil 2 true), [10], (some 10), none⟩,
   o1 11 (.same 4),
   o1 12 (.idx .nil),
   o1 13 (.load 5 [] 0 (.t 12) 1 false),
   ⟨false, [], [], .call 2 93 [.t 7, .t 13] (.mp 0), [14, 7], (some 14), none⟩,
   ⟨false, [10], [], .det 2 (.store 2 [] 0 .nil (.t 10)), [2, 10, 10, 5], none, none⟩,
   o4 1 [3] (.store 3 [] 0 .nil (.t 14))])
 .ret))))
def s_sDrawRightGraph : Sig := ⟨[.rd false [.sl (.own none) [.d]]], (.tup [(true, 2), (true, 2)] [.d, .sl (.own none) [.d, .d], .d, .d])⟩
noncomputable def E_sDrawRightGraph : TEnv := envOf [(90, p_sl01New), (106, p_sl05Graph), (93, p_sl05Edge)]
noncomputable def f_sDrawRightGraph (n : Nat) : List (Int) → Option ((Int × List (Int × Int) × Int × Int) × Unit) := runFn n E_sDrawRightGraph c_sDrawRightGraph [[.sl [.i .u8]]] [.i .i64, .sl [.i .i64, .i .i64], .i .i64, .i .i64] [] [2, 3] .no
noncomputable def g_sDrawRightGraph := f_sDrawRightGraph BIG
noncomputable def p_sDrawRightGraph : TSp := ⟨s_sDrawRightGraph, [[.sl [.i .u8]]], [.i .i64, .sl [.i .i64, .i .i64], .i .i64, .i .i64], [], Ou.j .no, g_sDrawRightGraph⟩
theorem k_sDrawRightGraph : chkW PG E_sDrawRightGraph 31 s_sDrawRightGraph (c_sDrawRightGraph.ht 15) .no = some (c_sDrawRightGraph.wc E_sDrawRightGraph, [2, 3]) := by kernel_rfl
theorem ok_sDrawRightGraph : p_sDrawRightGraph.Ok PG 31 := mkOk (env_cons ok_sl01New (env_cons ok_sl05Graph (env_cons ok_sl05Edge (env_nil PG)))) k_sDrawRightGraph (by kernel_rfl)
theorem e_sDrawRightGraph (n : Nat) (a0 : List (Int)) : f_sDrawRightGraph n a0 =
  Option.bind (g_sl01New a0) fun r0 =>
  Option.bind (g_sl05Graph r0.1) fun r1 =>
  Option.bind (g_sl05Edge (r1.2, r1.1.1)) fun r2 =>
  some ((r1.1.1, r1.1.2, r2.1), ()) := by kernel_rfl
/- spec.DrawPlaces -/
def c_sDrawPlaces : TC :=
 (.seq (.rg [o1 2 (.lit [.sl [.i .i64]] [.slice none 0 0])])
 (.seq (.rg [o1 6 (.copy 0),
   o3 7 90 [.t 6],
   o1 3 (.p0)])
 (.seq (.rg [o1 8 (.same 3),
   ⟨false, [], [], .call 2 103 [.t 7] (.mp 0), [9, 7], (some 9), none⟩])
 (.seq (.rg [o1 10 (.sli [.i .i64] []),
   ⟨false, [], [], .det 2 (.copy 10), [4, 10], (some 4), none⟩])
 (.seq (.join [⟨4, [.sl [.i .i64]], false⟩] 1046704 none (.seq (.rg [o1 5 (.lit [.i .i64] [.int .i64 (0)])])
 (.block 0 (.loop [⟨4, [.sl [.i .i64]], false⟩, ⟨7, [.sl [.i .u8], .i .i64, .i .i64], false⟩, ⟨5, [.i .i64], false⟩] 1046704
  (.seq (.seq (.rg [o1 11 (.copy 5),
    o1 12 (.data (.bin .lss) [.t 11, .c (.int .i64 (12))])])
  (.cond (.t 12)
   .skip
   (.exit 0)))
  (.seq (.block 1 (.rg [⟨false, [], [], .det 2 (.copy 4), [15, 4], (some 15), none⟩,
    o1 16 (.same 3),
    ⟨false, [], [], .call 2 92 [.t 7, .c [.i .i64] [.int .i64 (10000)]] (.mp 0), [17, 7], (some 17), none⟩,
    o1 18 (.sli [.i .i64] [.t 17]),
    ⟨false, [], [], .det 2 (.app (some 15) 18), [19, 15], (some 19), none⟩,
    ⟨false, [], [], .det 2 (.copy 19), [4, 19], (some 4), none⟩]))
  (.rg [o1 13 (.copy 5),
    o1 14 (.data (.bin .add) [.t 13, .c (.int .i64 (1))]),
    o1 5 (.copy 14)])))))))
 (.seq (.rg [⟨false, [], [], .det 2 (.copy 4), [20, 4], (some 20), none⟩,
   ⟨false, [], [], .det 2 (.copy 20), [2, 20], (some 2), none⟩])
 .ret))))))
def s_sDrawPlaces : Sig := ⟨[.rd false [.sl (.own none) [.d]]], (.one false [.sl (.own none) [.d]])⟩
noncomputable def E_sDrawPlaces : TEnv := envOf [(90, p_sl01New), (103, p_sl01Byte), (92, p_sl01Below)]
noncomputable def f_sDrawPlaces (n : Nat) : List (Int) → Option ((List (Int)) × Unit) := runFn n E_sDrawPlaces c_sDrawPlaces [[.sl [.i .u8]]] [.sl [.i .i64]] [] [2] .no
noncomputable def g_sDrawPlaces := f_sDrawPlaces BIG
noncomputable def p_sDrawPlaces : TSp := ⟨s_sDrawPlaces, [[.sl [.i .u8]]], [.sl [.i .i64]], [], Ou.j .no, g_sDrawPlaces⟩
theorem k_sDrawPlaces : chkW PG E_sDrawPlaces 25 s_sDrawPlaces (c_sDrawPlaces.ht 21) .no = some (c_sDrawPlaces.wc E_sDrawPlaces, [2]) := by kernel_rfl
theorem ok_sDrawPlaces : p_sDrawPlaces.Ok PG 25 := mkOk (env_cons ok_sl01New (env_cons ok_sl01Byte (env_cons ok_sl01Below (env_nil PG)))) k_sDrawPlaces (by kernel_rfl)
theorem e_sDrawPlaces (n : Nat) (a0 : List (Int)) : f_sDrawPlaces n a0 =
  Option.bind (g_sl01New a0) fun r0 =>
  Option.bind (g_sl01Byte r0.1) fun r1 =>
  Option.bind (loopT n (X := (List (Int)) × (List (Int) × Int × Int) × Int) (B := (List (Int))) (fun self3 x2 =>
    bif decide (x2.2.2 < (12 : Int)) then
     Option.bind (g_sl01Below (x2.2.1, (10000 : Int))) fun r4 =>
     bif decide (x2.1.length + [r4.1].length ≤ 4294967296) then
      self3 (x2.1 ++ [r4.1], r4.2, IntKind.wrap .i64 (x2.2.2 + (1 : Int)))
     else none
    else some x2.1) ([], r1.2, (0 : Int)) : Option ((List (Int)))) fun x5 =>
  some (x5, ()) := by kernel_rfl
/- spec.l01In -/
def c_sl01In : TC :=
 (.seq (.rg [o1 6 (.lit [.b] [.bool false])])
 (.seq (.join [⟨6, [.b], false⟩] 32704 none (.rg [o1 7 (.copy 0),
   o1 8 (.copy 1),
   o1 9 (.data (.bin .geq) [.t 7, .t 8]),
   o1 10 (.copy 9),
   o2 11 (.copy 0) 3 true,
   o2 12 (.copy 2) 3 true,
   o2 13 (.data (.bin .leq) [.t 11, .t 12]) 3 true,
   ⟨false, [], [], .pick 10 (.t 13) (.c (.bool false)), [14], (some 14), none⟩,
   o1 6 (.copy 14)]))
 .ret))
def s_sl01In : Sig := ⟨[.rd false [.d], .rd false [.d], .rd false [.d]], (.one false [.d])⟩
noncomputable def E_sl01In : TEnv := envOf []
noncomputable def f_sl01In (n : Nat) : Int × Int × Int → Option ((Bool) × Unit) := runFn n E_sl01In c_sl01In [[.i .i64], [.i .i64], [.i .i64]] [.b] [] [6] .no
noncomputable def g_sl01In := f_sl01In BIG
noncomputable def p_sl01In : TSp := ⟨s_sl01In, [[.i .i64], [.i .i64], [.i .i64]], [.b], [], Ou.j .no, g_sl01In⟩
theorem k_sl01In : chkW PG E_sl01In 98 s_sl01In (c_sl01In.ht 15) .no = some (c_sl01In.wc E_sl01In, [6]) := by kernel_rfl
theorem ok_sl01In : p_sl01In.Ok PG 98 := mkOk (env_nil PG) k_sl01In (by kernel_rfl)
theorem e_sl01In (n : Nat) (a0 : Int) (a1 : Int) (a2 : Int) : f_sl01In n (a0, a1, a2) =
  Option.bind (bif decide (a1 ≤ a0) then
    some (decide (a0 ≤ a2))
   else some false : Option (Bool)) fun x0 =>
  some (x0, ()) := by kernel_rfl
/- spec.EdgeOk -/
def c_sEdgeOk : TC :=
 (.seq (.rg [o1 3 (.a (.t 1)),
   o1 4 (.lit [.b] [.bool false])])
 (.seq (.join [⟨4, [.b], false⟩] 268435440 none (.rg [o1 5 (.copy 0),
   o3 6 98 [.t 5, .c [.i .i64] [.int .i64 (1)], .c [.i .i64] [.int .i64 (12)]],
   o1 7 (.copy 6),
   o2 8 (.idx .nil) 2 true,
   o2 9 (.load 3 [] 0 (.t 8) 1 false) 2 true,
   o2 10 (.copy 0) 2 true,
   o2 11 (.data (.bin .sub) [.t 10, .c (.int .i64 (1))]) 2 true,
   ⟨false, [], [], .call 1 98 [.t 9, .c [.i .i64] [.int .i64 (0)], .t 11] .no, [12], (some 12), some (2, true)⟩,
   ⟨false, [], [], .pick 7 (.t 12) (.c (.bool false)), [13], (some 13), none⟩,
   o1 14 (.copy 13),
   o2 15 (.idx .nil) 9 true,
   o2 16 (.load 3 [] 1 (.t 15) 1 false) 9 true,
   o2 17 (.copy 0) 9 true,
   o2 18 (.data (.bin .sub) [.t 17, .c (.int .i64 (1))]) 9 true,
   ⟨false, [], [], .call 1 98 [.t 16, .c [.i .i64] [.int .i64 (0)], .t 18] .no, [19], (some 19), some (9, true)⟩,
   ⟨false, [], [], .pick 14 (.t 19) (.c (.bool false)), [20], (some 20), none⟩,
   o1 21 (.copy 20),
   o2 22 (.idx .nil) 16 true,
   o2 23 (.load 3 [] 0 (.t 22) 1 false) 16 true,
   o2 24 (.idx .nil) 16 true,
   o2 25 (.load 3 [] 1 (.t 24) 1 false) 16 true,
   o2 26 (.data (.bin .lss) [.t 23, .t 25]) 16 true,
   ⟨false, [], [], .pick 21 (.t 26) (.c (.bool false)), [27], (some 27), none⟩,
   o1 4 (.copy 27)]))
 .ret))
def s_sEdgeOk : Sig := ⟨[.rd false [.d], .rd true [.d, .d]], (.one false [.d])⟩
noncomputable def E_sEdgeOk : TEnv := envOf [(98, p_sl01In)]
noncomputable def f_sEdgeOk (n : Nat) : Int × (Int × Int) → Option ((Bool) × Unit) := runFn n E_sEdgeOk c_sEdgeOk [[.i .i64], [.i .i64, .i .i64]] [.b] [] [4] .no
noncomputable def g_sEdgeOk := f_sEdgeOk BIG
noncomputable def p_sEdgeOk : TSp := ⟨s_sEdgeOk, [[.i .i64], [.i .i64, .i .i64]], [.b], [], Ou.j .no, g_sEdgeOk⟩
theorem k_sEdgeOk : chkW PG E_sEdgeOk 116 s_sEdgeOk (c_sEdgeOk.ht 28) .no = some (c_sEdgeOk.wc E_sEdgeOk, [4]) := by kernel_rfl
theorem ok_sEdgeOk : p_sEdgeOk.Ok PG 116 := mkOk (env_cons ok_sl01In (env_nil PG)) k_sEdgeOk (by kernel_rfl)
theorem e_sEdgeOk (n : Nat) (a0 : Int) (a1 : Int × Int) : f_sEdgeOk n (a0, a1) =
  Option.bind (Option.bind (g_sl01In (a0, (1 : Int), (12 : Int))) fun r0 =>
   bif r0.1 then
    Option.bind (g_sl01In (a1.1, (0 : Int), IntKind.wrap .i64 (a0 - (1 : Int)))) fun r1 =>
    bif r1.1 then
     Option.bind (g_sl01In (a1.2, (0 : Int), IntKind.wrap .i64 (a0 - (1 : Int)))) fun r2 =>
     bif r2.1 then
      some (decide (a1.1 < a1.2))
     else some false
    else some false
   else some false : Option (Bool)) fun x3 =>
  some (x3, ()) := by kernel_rfl
/- spec.l05Edges -/
def c_sl05Edges : TC :=
 (.seq (.rg [o1 4 (.lit [.b] [.bool false])])
 (.seq (.join [] 68719476720 (some [⟨4, [.b], false⟩]) (.seq (.rg [o1 5 (.lit [.i .i64] [.int .i64 (0)])])
 (.block 0 (.loop [⟨5, [.i .i64], false⟩] 68719476720
  (.seq (.seq (.rg [o1 6 (.copy 5),
    o1 7 (.copy 1),
    o1 8 (.len 7),
    o1 9 (.data (.bin .lss) [.t 6, .t 8])])
  (.cond (.t 9)
   .skip
   (.exit 0)))
  (.seq (.join [] 68719472656 (some [⟨4, [.b], false⟩]) (.block 1 (.seq (.join [⟨35, [.b], false⟩] 68719472640 none (.rg [o1 12 (.copy 0),
    o1 13 (.copy 1),
    o1 14 (.copy 5),
    o1 15 (.index 13 (.t 14)),
    o1 16 (.load 13 [(0, 2)] 0 (.t 15) 2 false),
    o3 17 116 [.t 12, .t 16],
    o1 18 (.data .not [.t 17]),
    o1 19 (.copy 18),
    o2 20 (.copy 5) 7 false,
    o2 21 (.data (.bin .gtr) [.t 20, .c (.int .i64 (0))]) 7 false,
    o2 22 (.copy 21) 7 false,
    o2 23 (.copy 1) 10 true,
    o2 24 (.copy 5) 10 true,
    o2 25 (.data (.bin .sub) [.t 24, .c (.int .i64 (1))]) 10 true,
    o2 26 (.index 23 (.t 25)) 10 true,
    o2 27 (.load 23 [(0, 2)] 0 (.t 26) 2 false) 10 true,
    o2 28 (.copy 1) 10 true,
    o2 29 (.copy 5) 10 true,
    o2 30 (.index 28 (.t 29)) 10 true,
    o2 31 (.load 28 [(0, 2)] 0 (.t 30) 2 false) 10 true,
    ⟨false, [], [], .call 1 305 [.t 27, .t 31] .no, [32], (some 32), some (10, true)⟩,
    o2 33 (.data .not [.t 32]) 10 true,
    ⟨false, [], [], .pick 22 (.t 33) (.c (.bool false)), [34], (some 34), some (7, false)⟩,
    ⟨false, [], [], .pick 19 (.c (.bool true)) (.t 34), [35], (some 35), none⟩]))
  (.cond (.t 35)
   (.seq (.rg [o1 4 (.lit [.b] [.bool false])])
   .ret)
   .skip))))
  (.rg [o1 10 (.copy 5),
    o1 11 (.data (.bin .add) [.t 10, .c (.int .i64 (1))]),
    o1 5 (.copy 11)])))))))
 (.seq (.rg [o1 36 (.copy 1),
   o1 37 (.len 36),
   o1 38 (.data (.bin .leq) [.t 37, .c (.int .i64 (66))]),
   o1 4 (.copy 38)])
 .ret)))
def s_sl05Edges : Sig := ⟨[.rd false [.d], .rd false [.sl (.own none) [.d, .d]]], (.one false [.d])⟩
noncomputable def E_sl05Edges : TEnv := envOf [(116, p_sEdgeOk), (305, p_sl05Less)]
noncomputable def f_sl05Edges (n : Nat) : Int × (List (Int × Int)) → Option ((Bool) × Unit) := runFn n E_sl05Edges c_sl05Edges [[.i .i64], [.sl [.i .i64, .i .i64]]] [.b] [] [4] .no
noncomputable def g_sl05Edges := f_sl05Edges BIG
noncomputable def p_sl05Edges : TSp := ⟨s_sl05Edges, [[.i .i64], [.sl [.i .i64, .i .i64]]], [.b], [], Ou.j .no, g_sl05Edges⟩
theorem k_sl05Edges : chkW PG E_sl05Edges 233 s_sl05Edges (c_sl05Edges.ht 39) .no = some (c_sl05Edges.wc E_sl05Edges, [4]) := by kernel_rfl
theorem ok_sl05Edges : p_sl05Edges.Ok PG 233 := mkOk (env_cons ok_sEdgeOk (env_cons ok_sl05Less (env_nil PG))) k_sl05Edges (by kernel_rfl)
theorem e_sl05Edges (n : Nat) (a0 : Int) (a1 : List (Int × Int)) : f_sl05Edges n (a0, a1) =
  Option.bind (loopT n (X := Int) (B := (Unit) ⊕ (Bool)) (fun self1 x0 =>
    bif decide (x0 < (a1.length : Int)) then
     Option.bind (Option.bind (bnd a1.length x0 fun n2 =>
       Option.bind a1[n2]? fun y3 =>
       Option.bind (g_sEdgeOk (a0, y3)) fun r4 =>
       bif !r4.1 then
        some true
       else bif decide ((0 : Int) < x0) then
        bnd a1.length (IntKind.wrap .i64 (x0 - (1 : Int))) fun n5 =>
        Option.bind a1[n5]? fun y6 =>
        bnd a1.length x0 fun n7 =>
        Option.bind a1[n7]? fun y8 =>
        Option.bind (g_sl05Less (y6, y8)) fun r9 =>
        some !r9.1
       else some false : Option (Bool)) fun x10 =>
      bif x10 then
       some (Sum.inr false)
      else some (Sum.inl ()) : Option ((Unit) ⊕ (Bool))) fun y => match y with
     | .inl x11 =>
      self1 (IntKind.wrap .i64 (x0 + (1 : Int)))
     | .inr x11 =>
      some (Sum.inr x11)
    else some (Sum.inl ())) (0 : Int) : Option ((Unit) ⊕ (Bool))) fun y => match y with
  | .inl x12 =>
   some (decide ((a1.length : Int) ≤ (66 : Int)), ())
  | .inr x12 =>
   some (x12, ()) := by kernel_rfl
/- spec.GraphOk -/
def c_sGraphOk : TC :=
 (.seq (.rg [o1 1 (.a (.t 0)),
   o1 2 (.lit [.b] [.bool false])])
 (.seq (.join [⟨2, [.b], false⟩] 8188 none (.rg [o1 3 (.idx .nil),
   o1 4 (.load 1 [] 0 (.t 3) 1 false),
   o3 5 98 [.t 4, .c [.i .i64] [.int .i64 (1)], .c [.i .i64] [.int .i64 (12)]],
   o1 6 (.copy 5),
   o2 7 (.idx .nil) 3 true,
   o2 8 (.load 1 [] 0 (.t 7) 1 false) 3 true,
   o2 9 (.idx .nil) 3 true,
   o2 10 (.load 1 [] 1 (.t 9) 1 false) 3 true,
   ⟨false, [], [], .call 1 233 [.t 8, .t 10] .no, [11], (some 11), some (3, true)⟩,
   ⟨false, [], [], .pick 6 (.t 11) (.c (.bool false)), [12], (some 12), none⟩,
   o1 2 (.copy 12)]))
 .ret))
def s_sGraphOk : Sig := ⟨[.rd true [.d, .sl (.own none) [.d, .d]]], (.one false [.d])⟩
noncomputable def E_sGraphOk : TEnv := envOf [(98, p_sl01In), (233, p_sl05Edges)]
noncomputable def f_sGraphOk (n : Nat) : (Int × List (Int × Int)) → Option ((Bool) × Unit) := runFn n E_sGraphOk c_sGraphOk [[.i .i64, .sl [.i .i64, .i .i64]]] [.b] [] [2] .no
noncomputable def g_sGraphOk := f_sGraphOk BIG
noncomputable def p_sGraphOk : TSp := ⟨s_sGraphOk, [[.i .i64, .sl [.i .i64, .i .i64]]], [.b], [], Ou.j .no, g_sGraphOk⟩
theorem k_sGraphOk : chkW PG E_sGraphOk 110 s_sGraphOk (c_sGraphOk.ht 13) .no = some (c_sGraphOk.wc E_sGraphOk, [2]) := by kernel_rfl
theorem ok_sGraphOk : p_sGraphOk.Ok PG 110 := mkOk (env_cons ok_sl01In (env_cons ok_sl05Edges (env_nil PG))) k_sGraphOk (by kernel_rfl)
theorem e_sGraphOk (n : Nat) (a0 : Int × List (Int × Int)) : f_sGraphOk n a0 =
  Option.bind (Option.bind (g_sl01In (a0.1, (1 : Int), (12 : Int))) fun r0 =>
   bif r0.1 then
    Option.bind (g_sl05Edges (a0.1, a0.2)) fun r1 =>
    some r1.1
   else some false : Option (Bool)) fun x2 =>
  some (x2, ()) := by kernel_rfl
/- spec.l05Labels -/
def c_sl05Labels : TC :=
 (.seq (.rg [o1 4 (.lit [.sl [.i .i64]] [.slice none 0 0])])
 (.seq (.rg [o1 11 (.sli [.i .i64] []),
   ⟨false, [], [], .det 2 (.copy 11), [5, 11], (some 5), none⟩])
 (.seq (.join [⟨5, [.sl [.i .i64]], false⟩] 2093152 none (.seq (.rg [o1 6 (.lit [.i .i64] [.int .i64 (0)])])
 (.block 0 (.loop [⟨5, [.sl [.i .i64]], false⟩, ⟨6, [.i .i64], false⟩] 2093152
  (.seq (.seq (.rg [o1 12 (.copy 6),
    o1 13 (.copy 0),
    o1 14 (.data (.bin .lss) [.t 12, .t 13])])
  (.cond (.t 14)
   .skip
   (.exit 0)))
  (.seq (.block 1 (.rg [⟨false, [], [], .det 2 (.copy 5), [17, 5], (some 17), none⟩,
    o1 18 (.copy 6),
    o1 19 (.sli [.i .i64] [.t 18]),
    ⟨false, [], [], .det 2 (.app (some 17) 19), [20, 17], (some 20), none⟩,
    ⟨false, [], [], .det 2 (.copy 20), [5, 20], (some 5), none⟩]))
  (.rg [o1 15 (.copy 6),
    o1 16 (.data (.bin .add) [.t 15, .c (.int .i64 (1))]),
    o1 6 (.copy 16)])))))))
 (.seq (.join [⟨5, [.sl [.i .i64]], false⟩] 1180591620717409208224 none (.seq (.rg [o1 7 (.lit [.i .i64] [.int .i64 (0)])])
 (.block 2 (.loop [⟨5, [.sl [.i .i64]], false⟩, ⟨7, [.i .i64], false⟩] 1180591620717409208224
  (.seq (.seq (.rg [o1 21 (.copy 7),
    o1 22 (.copy 0),
    o1 23 (.data (.bin .lss) [.t 21, .t 22])])
  (.cond (.t 23)
   .skip
   (.exit 2)))
  (.seq (.join [⟨5, [.sl [.i .i64]], false⟩] 1180591620717344196384 none (.block 3 (.seq (.rg [o1 8 (.lit [.i .i64] [.int .i64 (0)])])
  (.block 4 (.loop [⟨5, [.sl [.i .i64]], false⟩, ⟨8, [.i .i64], false⟩] 1180591620717344196384
   (.seq (.seq (.rg [o1 26 (.copy 8),
     o1 27 (.copy 1),
     o1 28 (.len 27),
     o1 29 (.data (.bin .lss) [.t 26, .t 28])])
   (.cond (.t 29)
    .skip
    (.exit 4)))
   (.seq (.join [⟨5, [.sl [.i .i64]], false⟩] 1180591620713116337696 none (.block 5 (.seq (.rg [⟨true, [], [], .det 1 (.copy 5), [32], (some 32), none⟩,
     o1 33 (.copy 1),
     o1 34 (.copy 8),
     o1 35 (.index 33 (.t 34)),
     o1 36 (.idx (.t 35)),
     o1 37 (.load 33 [(0, 2)] 0 (.t 36) 1 false),
     o1 38 (.index 32 (.t 37)),
     o1 39 (.load 5 [(0, 1)] 0 (.t 38) 1 false),
     o1 9 (.copy 39)])
   (.seq (.rg [⟨true, [], [], .det 1 (.copy 5), [40], (some 40), none⟩,
     o1 41 (.copy 1),
     o1 42 (.copy 8),
     o1 43 (.index 41 (.t 42)),
     o1 44 (.idx (.t 43)),
     o1 45 (.load 41 [(0, 2)] 1 (.t 44) 1 false),
     o1 46 (.index 40 (.t 45)),
     o1 47 (.load 5 [(0, 1)] 0 (.t 46) 1 false),
     o1 10 (.copy 47)])
   (.seq (.join [⟨5, [.sl [.i .i64]], false⟩] 576180381133307936 none (.seq (.rg [o1 48 (.copy 9),
     o1 49 (.copy 10),
     o1 50 (.data (.bin .lss) [.t 48, .t 49])])
   (.cond (.t 50)
    (.rg [⟨true, [], [], .det 1 (.copy 5), [51], (some 51), none⟩,
      o1 52 (.copy 1),
      o1 53 (.copy 8),
      o1 54 (.index 52 (.t 53)),
      o1 55 (.idx (.t 54)),
      o1 56 (.load 52 [(0, 2)] 1 (.t 55) 1 false),
      o1 57 (.copy 9),
      o1 58 (.index 51 (.t 56)),
      o4 1 [5, 32, 40, 51] (.store 5 [(0, 1)] 0 (.t 58) (.t 57))])
    .skip)))
   (.seq (.rg [o1 59 (.copy 10),
     o1 60 (.copy 9),
     o1 61 (.data (.bin .lss) [.t 59, .t 60])])
   (.cond (.t 61)
    (.rg [⟨true, [], [], .det 1 (.copy 5), [62], (some 62), none⟩,
      o1 63 (.copy 1),
      o1 64 (.copy 8),
      o1 65 (.index 63 (.t 64)),
      o1 66 (.idx (.t 65)),
      o1 67 (.load 63 [(0, 2)] 0 (.t 66) 1 false),
      o1 68 (.copy 10),
      o1 69 (.index 62 (.t 67)),
      o4 1 [5, 62] (.store 5 [(0, 1)] 0 (.t 69) (.t 68))])
    .skip)))))))
   (.rg [o1 30 (.copy 8),
     o1 31 (.data (.bin .add) [.t 30, .c (.int .i64 (1))]),
     o1 8 (.copy 31)]))))))))
  (.rg [o1 24 (.copy 7),
    o1 25 (.data (.bin .add) [.t 24, .c (.int .i64 (1))]),
    o1 7 (.copy 25)])))))))
 (.seq (.rg [⟨false, [], [], .det 2 (.copy 5), [70, 5], (some 70), none⟩,
   ⟨false, [], [], .det 2 (.copy 70), [4, 70], (some 4), none⟩])
 .ret)))))
def s_sl05Labels : Sig := ⟨[.rd false [.d], .rd false [.sl (.own none) [.d, .d]]], (.one false [.sl (.own none) [.d]])⟩
noncomputable def E_sl05Labels : TEnv := envOf []
noncomputable def f_sl05Labels (n : Nat) : Int × (List (Int × Int)) → Option ((List (Int)) × Unit) := runFn n E_sl05Labels c_sl05Labels [[.i .i64], [.sl [.i .i64, .i .i64]]] [.sl [.i .i64]] [] [4] .no
noncomputable def g_sl05Labels := f_sl05Labels BIG
noncomputable def p_sl05Labels : TSp := ⟨s_sl05Labels, [[.i .i64], [.sl [.i .i64, .i .i64]]], [.sl [.i .i64]], [], Ou.j .no, g_sl05Labels⟩
theorem k_sl05Labels : chkW PG E_sl05Labels 111 s_sl05Labels (c_sl05Labels.ht 71) .no = some (c_sl05Labels.wc E_sl05Labels, [4]) := by kernel_rfl
theorem ok_sl05Labels : p_sl05Labels.Ok PG 111 := mkOk (env_nil PG) k_sl05Labels (by kernel_rfl)
theorem e_sl05Labels (n : Nat) (a0 : Int) (a1 : List (Int × Int)) : f_sl05Labels n (a0, a1) =
  Option.bind (loopT n (X := (List (Int)) × Int) (B := (List (Int))) (fun self1 x0 =>
    bif decide (x0.2 < a0) then
     bif decide (x0.1.length + [x0.2].length ≤ 4294967296) then
      self1 (x0.1 ++ [x0.2], IntKind.wrap .i64 (x0.2 + (1 : Int)))
     else none
    else some x0.1) ([], (0 : Int)) : Option ((List (Int)))) fun x2 =>
  Option.bind (loopT n (X := (List (Int)) × Int) (B := (List (Int))) (fun self4 x3 =>
    bif decide (x3.2 < a0) then
     Option.bind (loopT n (X := (List (Int)) × Int) (B := (List (Int))) (fun self6 x5 =>
       bif decide (x5.2 < (a1.length : Int)) then
        Option.bind (bnd a1.length x5.2 fun n7 =>
         Option.bind a1[n7]? fun y8 =>
         bnd x5.1.length y8.1 fun n9 =>
         Option.bind x5.1[n9]? fun y10 =>
         bnd a1.length x5.2 fun n11 =>
         Option.bind a1[n11]? fun y12 =>
         bnd x5.1.length y12.2 fun n13 =>
         Option.bind x5.1[n13]? fun y14 =>
         Option.bind (bif decide (y10 < y14) then
           bnd a1.length x5.2 fun n15 =>
           Option.bind a1[n15]? fun y16 =>
           bnd x5.1.length y16.2 fun n17 =>
           Option.bind x5.1[n17]? fun y18 =>
           some (x5.1.set n17 y10)
          else some x5.1 : Option ((List (Int)))) fun x19 =>
         bif decide (y14 < y10) then
          bnd a1.length x5.2 fun n20 =>
          Option.bind a1[n20]? fun y21 =>
          bnd x19.length y21.1 fun n22 =>
          Option.bind x19[n22]? fun y23 =>
          some (x19.set n22 y14)
         else some x19 : Option ((List (Int)))) fun x24 =>
        self6 (x24, IntKind.wrap .i64 (x5.2 + (1 : Int)))
       else some x5.1) (x3.1, (0 : Int)) : Option ((List (Int)))) fun x25 =>
     self4 (x25, IntKind.wrap .i64 (x3.2 + (1 : Int)))
    else some x3.1) (x2, (0 : Int)) : Option ((List (Int)))) fun x26 =>
  some (x26, ()) := by kernel_rfl
/- spec.Labels -/
def c_sLabels : TC :=
 (.seq (.rg [o1 1 (.a (.t 0)),
   o1 2 (.lit [.sl [.i .i64]] [.slice none 0 0])])
 (.seq (.seq (.rg [o1 3 (.load 1 [] 0 .nil 2 false),
   o3 4 110 [.t 3],
   o1 5 (.data .not [.t 4])])
 (.cond (.t 5)
  (.seq (.rg [o1 6 (.sli [.i .i64] []),
    ⟨false, [], [], .det 2 (.copy 6), [2, 6], (some 2), none⟩])
  .ret)
  .skip))
 (.seq (.rg [o1 7 (.idx .nil),
   o1 8 (.load 1 [] 0 (.t 7) 1 false),
   o1 9 (.idx .nil),
   o1 10 (.load 1 [] 1 (.t 9) 1 false),
   o3 11 111 [.t 8, .t 10],
   ⟨false, [], [], .det 2 (.copy 11), [2, 11], (some 2), none⟩])
 .ret)))
def s_sLabels : Sig := ⟨[.rd true [.d, .sl (.own none) [.d, .d]]], (.one false [.sl (.own none) [.d]])⟩
noncomputable def E_sLabels : TEnv := envOf [(110, p_sGraphOk), (111, p_sl05Labels)]
noncomputable def f_sLabels (n : Nat) : (Int × List (Int × Int)) → Option ((List (Int)) × Unit) := runFn n E_sLabels c_sLabels [[.i .i64, .sl [.i .i64, .i .i64]]] [.sl [.i .i64]] [] [2] .no
noncomputable def g_sLabels := f_sLabels BIG
noncomputable def p_sLabels : TSp := ⟨s_sLabels, [[.i .i64, .sl [.i .i64, .i .i64]]], [.sl [.i .i64]], [], Ou.j .no, g_sLabels⟩
theorem k_sLabels : chkW PG E_sLabels 33 s_sLabels (c_sLabels.ht 12) .no = some (c_sLabels.wc E_sLabels, [2]) := by kernel_rfl
theorem ok_sLabels : p_sLabels.Ok PG 33 := mkOk (env_cons ok_sGraphOk (env_cons ok_sl05Labels (env_nil PG))) k_sLabels (by kernel_rfl)
theorem e_sLabels (n : Nat) (a0 : Int × List (Int × Int)) : f_sLabels n a0 =
  Option.bind (g_sGraphOk a0) fun r0 =>
  bif !r0.1 then
   some ([], ())
  else Option.bind (g_sl05Labels (a0.1, a0.2)) fun r1 =>
  some (r1.1, ()) := by kernel_rfl
/- impl.in -/
def c_iin : TC :=
 (.seq (.rg [o1 6 (.lit [.b] [.bool false])])
 (.seq (.join [⟨6, [.b], false⟩] 32704 none (.rg [o1 7 (.copy 0),
   o1 8 (.copy 1),
   o1 9 (.data (.bin .geq) [.t 7, .t 8]),
   o1 10 (.copy 9),
   o2 11 (.copy 0) 3 true,
   o2 12 (.copy 2) 3 true,
   o2 13 (.data (.bin .leq) [.t 11, .t 12]) 3 true,
   ⟨false, [], [], .pick 10 (.t 13) (.c (.bool false)), [14], (some 14), none⟩,
   o1 6 (.copy 14)]))
 .ret))
def s_iin : Sig := ⟨[.rd false [.d], .rd false [.d], .rd false [.d]], (.one false [.d])⟩
noncomputable def E_iin : TEnv := envOf []
noncomputable def f_iin (n : Nat) : Int × Int × Int → Option ((Bool) × Unit) := runFn n E_iin c_iin [[.i .i64], [.i .i64], [.i .i64]] [.b] [] [6] .no
noncomputable def g_iin := f_iin BIG
noncomputable def p_iin : TSp := ⟨s_iin, [[.i .i64], [.i .i64], [.i .i64]], [.b], [], Ou.j .no, g_iin⟩
theorem k_iin : chkW PG E_iin 101 s_iin (c_iin.ht 15) .no = some (c_iin.wc E_iin, [6]) := by kernel_rfl
theorem ok_iin : p_iin.Ok PG 101 := mkOk (env_nil PG) k_iin (by kernel_rfl)
theorem e_iin (n : Nat) (a0 : Int) (a1 : Int) (a2 : Int) : f_iin n (a0, a1, a2) =
  Option.bind (bif decide (a1 ≤ a0) then
    some (decide (a0 ≤ a2))
   else some false : Option (Bool)) fun x0 =>
  some (x0, ()) := by kernel_rfl
/- impl.first -/
def c_ifirst : TC :=
 (.seq (.rg [o1 2 (.lit [.sl [.i .i64]] [.slice none 0 0])])
 (.seq (.rg [o1 3 (.lit [.sl [.i .i64]] [.slice none 0 0])])
 (.seq (.join [⟨3, [.sl [.i .i64]], false⟩] 16376 none (.seq (.rg [o1 5 (.copy 0),
   o1 6 (.lit [.i .i64] [.int .i64 (0)])])
 (.block 0 (.loop [⟨3, [.sl [.i .i64]], false⟩, ⟨6, [.i .i64], false⟩] 16344
  (.seq (.rg [o1 7 (.data (.bin .lss) [.t 6, .t 5])])
  (.seq (.cond (.t 7)
   .skip
   (.exit 0))
  (.seq (.block 1 (.seq (.rg [o1 8 (.copy 6),
    o1 4 (.copy 8)])
  (.rg [⟨false, [], [], .det 2 (.copy 3), [9, 3], (some 9), none⟩,
    o1 10 (.copy 4),
    o1 11 (.sli [.i .i64] [.t 10]),
    ⟨false, [], [], .det 2 (.app (some 9) 11), [12, 9], (some 12), none⟩,
    ⟨false, [], [], .det 2 (.copy 12), [3, 12], (some 3), none⟩])))
  (.rg [o1 13 (.data (.bin .add) [.t 6, .c (.int .i64 (1))]),
    o1 6 (.copy 13)]))))))))
 (.seq (.rg [⟨false, [], [], .det 2 (.copy 3), [14, 3], (some 14), none⟩,
   ⟨false, [], [], .det 2 (.copy 14), [2, 14], (some 2), none⟩])
 .ret))))
def s_ifirst : Sig := ⟨[.rd false [.d]], (.one false [.sl (.own none) [.d]])⟩
noncomputable def E_ifirst : TEnv := envOf []
noncomputable def f_ifirst (n : Nat) : Int → Option ((List (Int)) × Unit) := runFn n E_ifirst c_ifirst [[.i .i64]] [.sl [.i .i64]] [] [2] .no
noncomputable def g_ifirst := f_ifirst BIG
noncomputable def p_ifirst : TSp := ⟨s_ifirst, [[.i .i64]], [.sl [.i .i64]], [], Ou.j .no, g_ifirst⟩
theorem k_ifirst : chkW PG E_ifirst 108 s_ifirst (c_ifirst.ht 15) .no = some (c_ifirst.wc E_ifirst, [2]) := by kernel_rfl
theorem ok_ifirst : p_ifirst.Ok PG 108 := mkOk (env_nil PG) k_ifirst (by kernel_rfl)
theorem e_ifirst (n : Nat) (a0 : Int) : f_ifirst n a0 =
  Option.bind (loopT n (X := (List (Int)) × Int) (B := (List (Int))) (fun self1 x0 =>
    bif decide (x0.2 < a0) then
     bif decide (x0.1.length + [x0.2].length ≤ 4294967296) then
      self1 (x0.1 ++ [x0.2], IntKind.wrap .i64 (x0.2 + (1 : Int)))
     else none
    else some x0.1) ([], (0 : Int)) : Option ((List (Int)))) fun x2 =>
  some (x2, ()) := by kernel_rfl
/- impl.union -/
def c_iunion : TC :=
 (.seq (.rg [o1 6 (.lit [.b] [.bool false])])
 (.seq (.rg [⟨true, [], [], .det 1 (.copy 0), [10], (some 10), none⟩,
   o1 11 (.copy 1),
   o1 12 (.index 10 (.t 11)),
   o1 13 (.load 0 [(0, 1)] 0 (.t 12) 1 false),
   ⟨true, [], [], .det 1 (.copy 0), [14], (some 14), none⟩,
   o1 15 (.copy 2),
   o1 16 (.index 14 (.t 15)),
   o1 17 (.load 0 [(0, 1)] 0 (.t 16) 1 false),
   o1 7 (.copy 13),
   o1 8 (.copy 17)])
 (.seq (.seq (.rg [o1 18 (.copy 7),
   o1 19 (.copy 8),
   o1 20 (.data (.bin .eql) [.t 18, .t 19])])
 (.cond (.t 20)
  (.seq (.rg [o1 6 (.lit [.b] [.bool false])])
  .ret)
  .skip))
 (.seq (.join [⟨0, [.sl [.i .i64]], false⟩] 2199021158913 none (.seq (.rg [⟨true, [], [], .det 1 (.copy 0), [21], (some 21), none⟩,
   o1 22 (.len 21),
   o1 23 (.lit [.i .i64] [.int .i64 (0)])])
 (.block 0 (.loop [⟨0, [.sl [.i .i64]], false⟩, ⟨23, [.i .i64], false⟩] 2199016982017
  (.seq (.rg [o1 24 (.data (.bin .lss) [.t 23, .t 22])])
  (.seq (.cond (.t 24)
   .skip
   (.exit 0))
  (.seq (.join [⟨0, [.sl [.i .i64]], false⟩] 1099478073857 none (.block 1 (.seq (.rg [o1 25 (.copy 23),
    o1 9 (.copy 25)])
  (.seq (.rg [⟨true, [], [], .det 1 (.copy 0), [26], (some 26), none⟩,
    o1 27 (.copy 9),
    o1 28 (.index 26 (.t 27)),
    o1 29 (.load 0 [(0, 1)] 0 (.t 28) 1 false),
    o1 30 (.copy 7),
    o1 31 (.copy 8),
    o1 32 (.data .max [.t 30, .t 31]),
    o1 33 (.data (.bin .eql) [.t 29, .t 32])])
  (.cond (.t 33)
   (.rg [⟨true, [], [], .det 1 (.copy 0), [34], (some 34), none⟩,
     o1 35 (.copy 9),
     o1 36 (.copy 7),
     o1 37 (.copy 8),
     o1 38 (.data .min [.t 36, .t 37]),
     o1 39 (.index 34 (.t 35)),
     o4 1 [0, 26, 34] (.store 0 [(0, 1)] 0 (.t 39) (.t 38))])
   .skip)))))
  (.rg [o1 40 (.data (.bin .add) [.t 23, .c (.int .i64 (1))]),
    o1 23 (.copy 40)]))))))))
 (.seq (.rg [o1 6 (.lit [.b] [.bool true])])
 .ret)))))
def s_iunion : Sig := ⟨[.mt false [.sl (.own none) [.d]], .rd false [.d], .rd false [.d]], (.one false [.d])⟩
noncomputable def E_iunion : TEnv := envOf []
noncomputable def f_iunion (n : Nat) : List (Int) × Int × Int → Option ((Bool) × List (Int)) := runFn n E_iunion c_iunion [[.sl [.i .i64]], [.i .i64], [.i .i64]] [.b] [.sl [.i .i64]] [6] (.mt 0 0 0)
noncomputable def g_iunion := f_iunion BIG
noncomputable def p_iunion : TSp := ⟨s_iunion, [[.sl [.i .i64]], [.i .i64], [.i .i64]], [.b], [.sl [.i .i64]], Ou.j (.mt 0 0 0), g_iunion⟩
theorem k_iunion : chkW PG E_iunion 109 s_iunion (c_iunion.ht 41) (.mt 0 0 0) = some (c_iunion.wc E_iunion, [6]) := by kernel_rfl
theorem ok_iunion : p_iunion.Ok PG 109 := mkOk (env_nil PG) k_iunion (by kernel_rfl)
theorem e_iunion (n : Nat) (a0 : List (Int)) (a1 : Int) (a2 : Int) : f_iunion n (a0, a1, a2) =
  bnd a0.length a1 fun n0 =>
  Option.bind a0[n0]? fun y1 =>
  bnd a0.length a2 fun n2 =>
  Option.bind a0[n2]? fun y3 =>
  bif decide (y1 = y3) then
   some (false, a0)
  else Option.bind (loopT n (X := (List (Int)) × Int) (B := (List (Int))) (fun self5 x4 =>
    bif decide (x4.2 < (a0.length : Int)) then
     Option.bind (bnd x4.1.length x4.2 fun n6 =>
      Option.bind x4.1[n6]? fun y7 =>
      bif decide (y7 = (if y3 > y1 then y3 else y1)) then
       bnd x4.1.length x4.2 fun n8 =>
       Option.bind x4.1[n8]? fun y9 =>
       some (x4.1.set n8 (if y3 < y1 then y3 else y1))
      else some x4.1 : Option ((List (Int)))) fun x10 =>
     self5 (x10, IntKind.wrap .i64 (x4.2 + (1 : Int)))
    else some x4.1) (a0, (0 : Int)) : Option ((List (Int)))) fun x11 =>
  some (true, x11) := by kernel_rfl
/- impl.EdgeOk -/
def c_iEdgeOk : TC :=
 (.seq (.rg [o1 3 (.a (.t 1)),
   o1 4 (.lit [.b] [.bool false])])
 (.seq (.join [⟨4, [.b], false⟩] 268435440 none (.rg [o1 5 (.copy 0),
   o3 6 101 [.t 5, .c [.i .i64] [.int .i64 (1)], .c [.i .i64] [.int .i64 (12)]],
   o1 7 (.copy 6),
   o2 8 (.idx .nil) 2 true,
   o2 9 (.load 3 [] 0 (.t 8) 1 false) 2 true,
   o2 10 (.copy 0) 2 true,
   o2 11 (.data (.bin .sub) [.t 10, .c (.int .i64 (1))]) 2 true,
   ⟨false, [], [], .call 1 101 [.t 9, .c [.i .i64] [.int .i64 (0)], .t 11] .no, [12], (some 12), some (2, true)⟩,
   ⟨false, [], [], .pick 7 (.t 12) (.c (.bool false)), [13], (some 13), none⟩,
   o1 14 (.copy 13),
   o2 15 (.idx .nil) 9 true,
   o2 16 (.load 3 [] 1 (.t 15) 1 false) 9 true,
   o2 17 (.copy 0) 9 true,
   o2 18 (.data (.bin .sub) [.t 17, .c (.int .i64 (1))]) 9 true,
   ⟨false, [], [], .call 1 101 [.t 16, .c [.i .i64] [.int .i64 (0)], .t 18] .no, [19], (some 19), some (9, true)⟩,
   ⟨false, [], [], .pick 14 (.t 19) (.c (.bool false)), [20], (some 20), none⟩,
   o1 21 (.copy 20),
   o2 22 (.idx .nil) 16 true,
   o2 23 (.load 3 [] 0 (.t 22) 1 false) 16 true,
   o2 24 (.idx .nil) 16 true,
   o2 25 (.load 3 [] 1 (.t 24) 1 false) 16 true,
   o2 26 (.data (.bin .lss) [.t 23, .t 25]) 16 true,
   ⟨false, [], [], .pick 21 (.t 26) (.c (.bool false)), [27], (some 27), none⟩,
   o1 4 (.copy 27)]))
 .ret))
def s_iEdgeOk : Sig := ⟨[.rd false [.d], .rd true [.d, .d]], (.one false [.d])⟩
noncomputable def E_iEdgeOk : TEnv := envOf [(101, p_iin)]
noncomputable def f_iEdgeOk (n : Nat) : Int × (Int × Int) → Option ((Bool) × Unit) := runFn n E_iEdgeOk c_iEdgeOk [[.i .i64], [.i .i64, .i .i64]] [.b] [] [4] .no
noncomputable def g_iEdgeOk := f_iEdgeOk BIG
noncomputable def p_iEdgeOk : TSp := ⟨s_iEdgeOk, [[.i .i64], [.i .i64, .i .i64]], [.b], [], Ou.j .no, g_iEdgeOk⟩
theorem k_iEdgeOk : chkW PG E_iEdgeOk 113 s_iEdgeOk (c_iEdgeOk.ht 28) .no = some (c_iEdgeOk.wc E_iEdgeOk, [4]) := by kernel_rfl
theorem ok_iEdgeOk : p_iEdgeOk.Ok PG 113 := mkOk (env_cons ok_iin (env_nil PG)) k_iEdgeOk (by kernel_rfl)
theorem e_iEdgeOk (n : Nat) (a0 : Int) (a1 : Int × Int) : f_iEdgeOk n (a0, a1) =
  Option.bind (Option.bind (g_iin (a0, (1 : Int), (12 : Int))) fun r0 =>
   bif r0.1 then
    Option.bind (g_iin (a1.1, (0 : Int), IntKind.wrap .i64 (a0 - (1 : Int)))) fun r1 =>
    bif r1.1 then
     Option.bind (g_iin (a1.2, (0 : Int), IntKind.wrap .i64 (a0 - (1 : Int)))) fun r2 =>
     bif r2.1 then
      some (decide (a1.1 < a1.2))
     else some false
    else some false
   else some false : Option (Bool)) fun x3 =>
  some (x3, ()) := by kernel_rfl
/- impl.WholeLabels -/
def c_iWholeLabels : TC :=
 (.seq (.rg [o1 6 (.lit [.sl [.i .i64]] [.slice none 0 0]),
   o1 7 (.lit [.b] [.bool false])])
 (.seq (.seq (.join [⟨22, [.b], false⟩] 8355840 none (.rg [o1 15 (.copy 0),
   o3 16 101 [.t 15, .c [.i .i64] [.int .i64 (1)], .c [.i .i64] [.int .i64 (12)]],
   o1 17 (.data .not [.t 16]),
   o1 18 (.copy 17),
   o2 19 (.copy 1) 3 false,
   o2 20 (.len 19) 3 false,
   o2 21 (.data (.bin .gtr) [.t 20, .c (.int .i64 (3))]) 3 false,
   ⟨false, [], [], .pick 18 (.c (.bool true)) (.t 21), [22], (some 22), none⟩]))
 (.cond (.t 22)
  (.seq (.rg [o1 6 (.lit [.sl [.i .i64]] [.slice none 0 0]),
    o1 7 (.lit [.b] [.bool false])])
  .ret)
  .skip))
 (.seq (.rg [o1 23 (.copy 0),
   o3 24 108 [.t 23],
   ⟨false, [], [], .det 2 (.copy 24), [8, 24], (some 8), none⟩])
 (.seq (.join [⟨8, [.sl [.i .i64]], false⟩] 4503599593823680 (some [⟨6, [.sl [.i .i64]], false⟩, ⟨7, [.b], false⟩]) (.seq (.rg [o1 25 (.copy 1),
   o1 26 (.len 25),
   o1 27 (.lit [.i .i64] [.int .i64 (0)])])
 (.block 0 (.loop [⟨8, [.sl [.i .i64]], false⟩, ⟨27, [.i .i64], false⟩] 4503599493160384
  (.seq (.rg [o1 28 (.data (.bin .lss) [.t 27, .t 26])])
  (.seq (.cond (.t 28)
   .skip
   (.exit 0))
  (.seq (.join [⟨8, [.sl [.i .i64]], false⟩] 2251799276821952 (some [⟨6, [.sl [.i .i64]], false⟩, ⟨7, [.b], false⟩]) (.block 1 (.seq (.rg [o1 29 (.index 25 (.t 27)),
    o1 30 (.load 25 [(0, 1)] 0 (.t 29) 1 false),
    o1 10 (.copy 30)])
  (.seq (.seq (.rg [o1 31 (.copy 10),
    o1 32 (.len 31),
    o1 33 (.copy 0),
    o1 34 (.data (.bin .neq) [.t 32, .t 33])])
  (.cond (.t 34)
   (.seq (.rg [o1 6 (.lit [.sl [.i .i64]] [.slice none 0 0]),
     o1 7 (.lit [.b] [.bool false])])
   .ret)
   .skip))
  (.seq (.rg [o1 35 (.copy 10),
    o1 36 (.len 35),
    o1 37 (.lit [.i .i64] [.int .i64 (0)])])
  (.block 2 (.loop [⟨8, [.sl [.i .i64]], false⟩, ⟨37, [.i .i64], false⟩] 2251662374738368
   (.seq (.rg [o1 38 (.data (.bin .lss) [.t 37, .t 36])])
   (.seq (.cond (.t 38)
    .skip
    (.exit 2))
   (.seq (.block 3 (.seq (.rg [o1 39 (.copy 37),
     o1 40 (.index 35 (.t 37)),
     o1 41 (.load 35 [(0, 1)] 0 (.t 40) 1 false),
     o1 11 (.copy 39),
     o1 12 (.copy 41)])
   (.seq (.seq (.rg [o1 42 (.copy 12),
     o1 43 (.copy 11),
     o3 44 101 [.t 42, .c [.i .i64] [.int .i64 (0)], .t 43],
     o1 45 (.data .not [.t 44])])
   (.cond (.t 45)
    (.seq (.rg [o1 6 (.lit [.sl [.i .i64]] [.slice none 0 0]),
      o1 7 (.lit [.b] [.bool false])])
    .ret)
    .skip))
   (.rg [⟨true, [], [], .det 1 (.copy 8), [46], (some 46), none⟩,
     o1 47 (.copy 12),
     o1 48 (.copy 11),
     ⟨false, [], [], .call 2 109 [.t 46, .t 47, .t 48] (.mt 8 [] 0 46 0), [49, 8, 46], (some 49), none⟩]))))
   (.rg [o1 50 (.data (.bin .add) [.t 37, .c (.int .i64 (1))]),
     o1 37 (.copy 50)])))))))))))
  (.rg [o1 51 (.data (.bin .add) [.t 27, .c (.int .i64 (1))]),
    o1 27 (.copy 51)]))))))))
 (.seq (.join [⟨8, [.sl [.i .i64]], false⟩] 590291306759078298048 (some [⟨6, [.sl [.i .i64]], false⟩, ⟨7, [.b], false⟩]) (.seq (.rg [o1 52 (.copy 2),
   o1 53 (.len 52),
   o1 54 (.lit [.i .i64] [.int .i64 (0)])])
 (.block 4 (.loop [⟨8, [.sl [.i .i64]], false⟩, ⟨54, [.i .i64], false⟩] 590277795960196186560
  (.seq (.rg [o1 55 (.data (.bin .lss) [.t 54, .t 53])])
  (.seq (.cond (.t 55)
   .skip
   (.exit 4))
  (.seq (.block 5 (.seq (.rg [o1 56 (.index 52 (.t 54)),
    o1 57 (.load 52 [(0, 2)] 0 (.t 56) 2 false),
    ⟨false, [], [], .det 2 (.a (.c [.i .i64, .i .i64] [.int .i64 (0), .int .i64 (0)])), [14, 1000000001], (some 14), none⟩,
    o4 1 [14] (.store 14 [] 0 .nil (.t 57))])
  (.seq (.seq (.rg [o1 58 (.copy 0),
    o1 59 (.load 14 [] 0 .nil 2 false),
    o3 60 113 [.t 58, .t 59],
    o1 61 (.data .not [.t 60])])
  (.cond (.t 61)
   (.seq (.rg [o1 6 (.lit [.sl [.i .i64]] [.slice none 0 0]),
     o1 7 (.lit [.b] [.bool false])])
   .ret)
   .skip))
  (.rg [⟨true, [], [], .det 1 (.copy 8), [62], (some 62), none⟩,
    o1 63 (.idx .nil),
    o1 64 (.load 14 [] 0 (.t 63) 1 false),
    o1 65 (.idx .nil),
    o1 66 (.load 14 [] 1 (.t 65) 1 false),
    ⟨false, [], [], .call 2 109 [.t 62, .t 64, .t 66] (.mt 8 [] 0 62 0), [67, 8, 62], (some 67), none⟩]))))
  (.rg [o1 68 (.data (.bin .add) [.t 54, .c (.int .i64 (1))]),
    o1 54 (.copy 68)]))))))))
 (.seq (.rg [⟨false, [], [], .det 2 (.copy 8), [69, 8], (some 69), none⟩,
   ⟨false, [], [], .det 2 (.copy 69), [6, 69], (some 6), none⟩,
   o1 7 (.lit [.b] [.bool true])])
 .ret))))))
def s_iWholeLabels : Sig := ⟨[.rd false [.d], .rd false [.sl (.own none) [.sl (.own none) [.d]]], .rd false [.sl (.own none) [.d, .d]]], (.tup [(false, 1), (false, 1)] [.sl (.own none) [.d], .d])⟩
noncomputable def E_iWholeLabels : TEnv := envOf [(101, p_iin), (108, p_ifirst), (109, p_iunion), (113, p_iEdgeOk)]
noncomputable def f_iWholeLabels (n : Nat) : Int × List (List (Int)) × (List (Int × Int)) → Option ((List (Int) × Bool) × Unit) := runFn n E_iWholeLabels c_iWholeLabels [[.i .i64], [.sl [.sl [.i .i64]]], [.sl [.i .i64, .i .i64]]] [.sl [.i .i64], .b] [] [6, 7] .no
noncomputable def g_iWholeLabels := f_iWholeLabels BIG
noncomputable def p_iWholeLabels : TSp := ⟨s_iWholeLabels, [[.i .i64], [.sl [.sl [.i .i64]]], [.sl [.i .i64, .i .i64]]], [.sl [.i .i64], .b], [], Ou.j .no, g_iWholeLabels⟩
theorem k_iWholeLabels : chkW PG E_iWholeLabels 40 s_iWholeLabels (c_iWholeLabels.ht 70) .no = some (c_iWholeLabels.wc E_iWholeLabels, [6, 7]) := by kernel_rfl
theorem ok_iWholeLabels : p_iWholeLabels.Ok PG 40 := mkOk (env_cons ok_iin (env_cons ok_ifirst (env_cons ok_iunion (env_cons ok_iEdgeOk (env_nil PG))))) k_iWholeLabels (by kernel_rfl)
theorem e_iWholeLabels (n : Nat) (a0 : Int) (a1 : List ((List (Int)))) (a2 : List (Int × Int)) : f_iWholeLabels n (a0, a1, a2) =
  Option.bind (Option.bind (g_iin (a0, (1 : Int), (12 : Int))) fun r0 =>
   bif !r0.1 then
    some true
   else some (decide ((3 : Int) < (a1.length : Int))) : Option (Bool)) fun x1 =>
  bif x1 then
   some (([], false), ())
  else Option.bind (g_ifirst a0) fun r2 =>
  Option.bind (loopT n (X := (List (Int)) × Int) (B := ((List (Int))) ⊕ ((List (Int)) × Bool)) (fun self4 x3 =>
    bif decide (x3.2 < (a1.length : Int)) then
     Option.bind (bnd a1.length x3.2 fun n5 =>
      Option.bind a1[n5]? fun y6 =>
      bif !decide ((y6.length : Int) = a0) then
       some (Sum.inr ([], false))
      else loopT n (X := (List (Int)) × Int) (B := ((List (Int))) ⊕ ((List (Int)) × Bool)) (fun self8 x7 =>
       bif decide (x7.2 < (y6.length : Int)) then
        bnd y6.length x7.2 fun n9 =>
        Option.bind y6[n9]? fun y10 =>
        Option.bind (g_iin (y10, (0 : Int), x7.2)) fun r11 =>
        bif !r11.1 then
         some (Sum.inr ([], false))
        else Option.bind (g_iunion (x7.1, y10, x7.2)) fun r12 =>
        self8 (r12.2, IntKind.wrap .i64 (x7.2 + (1 : Int)))
       else some (Sum.inl x7.1)) (x3.1, (0 : Int)) : Option (((List (Int))) ⊕ ((List (Int)) × Bool))) fun y => match y with
     | .inl x13 =>
      self4 (x13, IntKind.wrap .i64 (x3.2 + (1 : Int)))
     | .inr x13 =>
      some (Sum.inr (x13.1, x13.2))
    else some (Sum.inl x3.1)) (r2.1, (0 : Int)) : Option (((List (Int))) ⊕ ((List (Int)) × Bool))) fun y => match y with
  | .inl x14 =>
   Option.bind (loopT n (X := (List (Int)) × Int) (B := ((List (Int))) ⊕ ((List (Int)) × Bool)) (fun self16 x15 =>
     bif decide (x15.2 < (a2.length : Int)) then
      bnd a2.length x15.2 fun n17 =>
      Option.bind a2[n17]? fun y18 =>
      Option.bind (g_iEdgeOk (a0, y18)) fun r19 =>
      bif !r19.1 then
       some (Sum.inr ([], false))
      else Option.bind (g_iunion (x15.1, y18.1, y18.2)) fun r20 =>
      self16 (r20.2, IntKind.wrap .i64 (x15.2 + (1 : Int)))
     else some (Sum.inl x15.1)) (x14, (0 : Int)) : Option (((List (Int))) ⊕ ((List (Int)) × Bool))) fun y => match y with
   | .inl x21 =>
    some ((x21, true), ())
   | .inr x21 =>
    some (x21, ())
  | .inr x14 =>
   some (x14, ()) := by kernel_rfl
/- impl.hasEdge -/
def c_ihasEdge : TC :=
 (.seq (.rg [o1 3 (.a (.t 1)),
   o1 4 (.lit [.b] [.bool false])])
 (.seq (.join [] 131024 (some [⟨4, [.b], false⟩]) (.seq (.rg [o1 7 (.copy 0),
   o1 8 (.len 7),
   o1 9 (.lit [.i .i64] [.int .i64 (0)])])
 (.block 0 (.loop [⟨9, [.i .i64], false⟩] 130640
  (.seq (.rg [o1 10 (.data (.bin .lss) [.t 9, .t 8])])
  (.seq (.cond (.t 10)
   .skip
   (.exit 0))
  (.seq (.block 1 (.seq (.rg [o1 11 (.index 7 (.t 9)),
    o1 12 (.load 7 [(0, 2)] 0 (.t 11) 2 false),
    ⟨false, [], [], .det 2 (.a (.c [.i .i64, .i .i64] [.int .i64 (0), .int .i64 (0)])), [6, 1000000001], (some 6), none⟩,
    o4 1 [6] (.store 6 [] 0 .nil (.t 12))])
  (.seq (.rg [o1 13 (.load 6 [] 0 .nil 2 false),
    o1 14 (.load 3 [] 0 .nil 2 false),
    o1 15 (.eqA [.i, .i] (.t 13) (.t 14) false)])
  (.cond (.t 15)
   (.seq (.rg [o1 4 (.lit [.b] [.bool true])])
   .ret)
   .skip))))
  (.rg [o1 16 (.data (.bin .add) [.t 9, .c (.int .i64 (1))]),
    o1 9 (.copy 16)]))))))))
 (.seq (.rg [o1 4 (.lit [.b] [.bool false])])
 .ret)))
def s_ihasEdge : Sig := ⟨[.rd false [.sl (.own none) [.d, .d]], .rd true [.d, .d]], (.one false [.d])⟩
noncomputable def E_ihasEdge : TEnv := envOf []
noncomputable def f_ihasEdge (n : Nat) : (List (Int × Int)) × (Int × Int) → Option ((Bool) × Unit) := runFn n E_ihasEdge c_ihasEdge [[.sl [.i .i64, .i .i64]], [.i .i64, .i .i64]] [.b] [] [4] .no
noncomputable def g_ihasEdge := f_ihasEdge BIG
noncomputable def p_ihasEdge : TSp := ⟨s_ihasEdge, [[.sl [.i .i64, .i .i64]], [.i .i64, .i .i64]], [.b], [], Ou.j .no, g_ihasEdge⟩
theorem k_ihasEdge : chkW PG E_ihasEdge 118 s_ihasEdge (c_ihasEdge.ht 17) .no = some (c_ihasEdge.wc E_ihasEdge, [4]) := by kernel_rfl
theorem ok_ihasEdge : p_ihasEdge.Ok PG 118 := mkOk (env_nil PG) k_ihasEdge (by kernel_rfl)
theorem e_ihasEdge (n : Nat) (a0 : List (Int × Int)) (a1 : Int × Int) : f_ihasEdge n (a0, a1) =
  Option.bind (loopT n (X := Int) (B := (Unit) ⊕ (Bool)) (fun self1 x0 =>
    bif decide (x0 < (a0.length : Int)) then
     bnd a0.length x0 fun n2 =>
     Option.bind a0[n2]? fun y3 =>
     bif (decide (y3.1 = a1.1) && (decide (y3.2 = a1.2) && true)) then
      some (Sum.inr true)
     else self1 (IntKind.wrap .i64 (x0 + (1 : Int)))
    else some (Sum.inl ())) (0 : Int) : Option ((Unit) ⊕ (Bool))) fun y => match y with
  | .inl x4 =>
   some (false, ())
  | .inr x4 =>
   some (x4, ()) := by kernel_rfl
/- impl.ahead -/
def c_iahead : TC :=
 (.seq (.rg [o1 2 (.a (.t 0)),
   o1 3 (.a (.t 1)),
   o1 4 (.lit [.b] [.bool false])])
 (.seq (.join [⟨4, [.b], false⟩] 16777200 none (.rg [o1 5 (.idx .nil),
   o1 6 (.load 2 [] 0 (.t 5) 1 false),
   o1 7 (.idx .nil),
   o1 8 (.load 3 [] 0 (.t 7) 1 false),
   o1 9 (.data (.bin .lss) [.t 6, .t 8]),
   o1 10 (.copy 9),
   o2 11 (.idx .nil) 5 false,
   o2 12 (.load 2 [] 0 (.t 11) 1 false) 5 false,
   o2 13 (.idx .nil) 5 false,
   o2 14 (.load 3 [] 0 (.t 13) 1 false) 5 false,
   o2 15 (.data (.bin .eql) [.t 12, .t 14]) 5 false,
   o2 16 (.copy 15) 5 false,
   o2 17 (.idx .nil) 11 true,
   o2 18 (.load 2 [] 1 (.t 17) 1 false) 11 true,
   o2 19 (.idx .nil) 11 true,
   o2 20 (.load 3 [] 1 (.t 19) 1 false) 11 true,
   o2 21 (.data (.bin .lss) [.t 18, .t 20]) 11 true,
   ⟨false, [], [], .pick 16 (.t 21) (.c (.bool false)), [22], (some 22), some (5, false)⟩,
   ⟨false, [], [], .pick 10 (.c (.bool true)) (.t 22), [23], (some 23), none⟩,
   o1 4 (.copy 23)]))
 .ret))
def s_iahead : Sig := ⟨[.rd true [.d, .d], .rd true [.d, .d]], (.one false [.d])⟩
noncomputable def E_iahead : TEnv := envOf []
noncomputable def f_iahead (n : Nat) : (Int × Int) × (Int × Int) → Option ((Bool) × Unit) := runFn n E_iahead c_iahead [[.i .i64, .i .i64], [.i .i64, .i .i64]] [.b] [] [4] .no
noncomputable def g_iahead := f_iahead BIG
noncomputable def p_iahead : TSp := ⟨s_iahead, [[.i .i64, .i .i64], [.i .i64, .i .i64]], [.b], [], Ou.j .no, g_iahead⟩
theorem k_iahead : chkW PG E_iahead 234 s_iahead (c_iahead.ht 24) .no = some (c_iahead.wc E_iahead, [4]) := by kernel_rfl
theorem ok_iahead : p_iahead.Ok PG 234 := mkOk (env_nil PG) k_iahead (by kernel_rfl)
theorem e_iahead (n : Nat) (a0 : Int × Int) (a1 : Int × Int) : f_iahead n (a0, a1) =
  Option.bind (bif decide (a0.1 < a1.1) then
    some true
   else bif decide (a0.1 = a1.1) then
    some (decide (a0.2 < a1.2))
   else some false : Option (Bool)) fun x0 =>
  some (x0, ()) := by kernel_rfl
/- impl.withEdge -/
def c_iwithEdge : TC :=
 (.seq (.rg [o1 3 (.a (.t 1)),
   o1 4 (.lit [.sl [.i .i64, .i .i64]] [.slice none 0 0])])
 (.seq (.rg [o1 5 (.lit [.i .i64] [.int .i64 (0)])])
 (.seq (.join [⟨5, [.i .i64], false⟩] 1048544 none (.block 0 (.loop [⟨5, [.i .i64], false⟩] 1048544
  (.seq (.seq (.join [⟨17, [.b], false⟩] 262080 none (.rg [o1 6 (.copy 5),
    o1 7 (.copy 0),
    o1 8 (.len 7),
    o1 9 (.data (.bin .lss) [.t 6, .t 8]),
    o1 10 (.copy 9),
    o2 11 (.copy 0) 4 true,
    o2 12 (.copy 5) 4 true,
    o2 13 (.index 11 (.t 12)) 4 true,
    o2 14 (.load 11 [(0, 2)] 0 (.t 13) 2 false) 4 true,
    o2 15 (.load 3 [] 0 .nil 2 false) 4 true,
    ⟨false, [], [], .call 1 234 [.t 14, .t 15] .no, [16], (some 16), some (4, true)⟩,
    ⟨false, [], [], .pick 10 (.t 16) (.c (.bool false)), [17], (some 17), none⟩]))
  (.cond (.t 17)
   .skip
   (.exit 0)))
  (.block 1 (.rg [o1 18 (.copy 5),
    o1 19 (.data (.bin .add) [.t 18, .c (.int .i64 (1))]),
    o1 5 (.copy 19)]))))))
 (.seq (.rg [o1 20 (.copy 0),
   o1 21 (.copy 5),
   o1 22 (.res 20 none (some (.t 21))),
   o1 23 (.app none 22),
   o1 24 (.load 3 [] 0 .nil 2 false),
   o1 25 (.sli [.i .i64, .i .i64] [.t 24]),
   ⟨false, [], [], .det 2 (.app (some 23) 25), [26, 23], (some 26), none⟩,
   o1 27 (.copy 0),
   o1 28 (.copy 5),
   o1 29 (.res 27 (some (.t 28)) none),
   ⟨false, [], [], .det 2 (.app (some 26) 29), [30, 26], (some 30), none⟩,
   ⟨false, [], [], .det 2 (.copy 30), [4, 30], (some 4), none⟩])
 .ret))))
def s_iwithEdge : Sig := ⟨[.rd false [.sl (.own none) [.d, .d]], .rd true [.d, .d]], (.one false [.sl (.own none) [.d, .d]])⟩
noncomputable def E_iwithEdge : TEnv := envOf [(234, p_iahead)]
noncomputable def f_iwithEdge (n : Nat) : (List (Int × Int)) × (Int × Int) → Option ((List (Int × Int)) × Unit) := runFn n E_iwithEdge c_iwithEdge [[.sl [.i .i64, .i .i64]], [.i .i64, .i .i64]] [.sl [.i .i64, .i .i64]] [] [4] .no
noncomputable def g_iwithEdge := f_iwithEdge BIG
noncomputable def p_iwithEdge : TSp := ⟨s_iwithEdge, [[.sl [.i .i64, .i .i64]], [.i .i64, .i .i64]], [.sl [.i .i64, .i .i64]], [], Ou.j .no, g_iwithEdge⟩
theorem k_iwithEdge : chkW PG E_iwithEdge 119 s_iwithEdge (c_iwithEdge.ht 31) .no = some (c_iwithEdge.wc E_iwithEdge, [4]) := by kernel_rfl
theorem ok_iwithEdge : p_iwithEdge.Ok PG 119 := mkOk (env_cons ok_iahead (env_nil PG)) k_iwithEdge (by kernel_rfl)
theorem e_iwithEdge (n : Nat) (a0 : List (Int × Int)) (a1 : Int × Int) : f_iwithEdge n (a0, a1) =
  Option.bind (loopT n (X := Int) (B := Int) (fun self1 x0 =>
    Option.bind (bif decide (x0 < (a0.length : Int)) then
      bnd a0.length x0 fun n2 =>
      Option.bind a0[n2]? fun y3 =>
      Option.bind (g_iahead (y3, a1)) fun r4 =>
      some r4.1
     else some false : Option (Bool)) fun x5 =>
    bif x5 then
     self1 (IntKind.wrap .i64 (x0 + (1 : Int)))
    else some x0) (0 : Int) : Option (Int)) fun x6 =>
  bif decide (0 ≤ x6) then
   bif decide (0 ≤ (Int.toNat x6) ∧ (Int.toNat x6) ≤ a0.length) then
    bif decide ((List.take ((Int.toNat x6) - 0) (List.drop 0 a0)).length ≤ 4294967296) then
     bif decide ((List.take ((Int.toNat x6) - 0) (List.drop 0 a0)).length + [a1].length ≤ 4294967296) then
      bif decide (0 ≤ x6) then
       bif decide ((Int.toNat x6) ≤ a0.length ∧ a0.length ≤ a0.length) then
        bif decide (((List.take ((Int.toNat x6) - 0) (List.drop 0 a0)) ++ [a1]).length + (List.take (a0.length - (Int.toNat x6)) (List.drop (Int.toNat x6) a0)).length ≤ 4294967296) then
         some (((List.take ((Int.toNat x6) - 0) (List.drop 0 a0)) ++ [a1]) ++ (List.take (a0.length - (Int.toNat x6)) (List.drop (Int.toNat x6) a0)), ())
        else none
       else none
      else none
     else none
    else none
   else none
  else none := by kernel_rfl
/- impl.WholeEdges -/
def c_iWholeEdges : TC :=
 (.seq (.rg [o1 4 (.lit [.sl [.i .i64, .i .i64]] [.slice none 0 0]),
   o1 5 (.lit [.b] [.bool false])])
 (.seq (.rg [o1 6 (.lit [.sl [.i .i64, .i .i64]] [.slice none 0 0])])
 (.seq (.join [⟨6, [.sl [.i .i64, .i .i64]], false⟩] 34359737712 (some [⟨4, [.sl [.i .i64, .i .i64]], false⟩, ⟨5, [.b], false⟩]) (.seq (.rg [o1 11 (.copy 0),
   o1 12 (.app none 11),
   o1 13 (.copy 1),
   o1 14 (.sli [.sl [.i .i64, .i .i64]] [.t 13]),
   ⟨false, [], [], .det 2 (.app (some 12) 14), [15, 12], (some 15), none⟩,
   o1 16 (.len 15),
   o1 17 (.lit [.i .i64] [.int .i64 (0)])])
 (.block 0 (.loop [⟨6, [.sl [.i .i64, .i .i64]], false⟩, ⟨17, [.i .i64], false⟩] 34359608688
  (.seq (.rg [o1 18 (.data (.bin .lss) [.t 17, .t 16])])
  (.seq (.cond (.t 18)
   .skip
   (.exit 0))
  (.seq (.join [⟨6, [.sl [.i .i64, .i .i64]], false⟩] 17179346288 (some [⟨4, [.sl [.i .i64, .i .i64]], false⟩, ⟨5, [.b], false⟩]) (.block 1 (.seq (.rg [o1 19 (.index 15 (.t 17)),
    o1 20 (.load 15 [(0, 1)] 0 (.t 19) 1 false),
    o1 8 (.copy 20)])
  (.seq (.rg [o1 21 (.copy 8),
    o1 22 (.len 21),
    o1 23 (.lit [.i .i64] [.int .i64 (0)])])
  (.block 2 (.loop [⟨6, [.sl [.i .i64, .i .i64]], false⟩, ⟨23, [.i .i64], false⟩] 17171481712
   (.seq (.rg [o1 24 (.data (.bin .lss) [.t 23, .t 22])])
   (.seq (.cond (.t 24)
    .skip
    (.exit 2))
   (.seq (.block 3 (.seq (.rg [o1 25 (.index 21 (.t 23)),
     o1 26 (.load 21 [(0, 2)] 0 (.t 25) 2 false),
     ⟨false, [], [], .det 2 (.a (.c [.i .i64, .i .i64] [.int .i64 (0), .int .i64 (0)])), [10, 1000000001], (some 10), none⟩,
     o4 1 [10] (.store 10 [] 0 .nil (.t 26))])
   (.seq (.seq (.rg [⟨true, [], [], .det 1 (.copy 6), [27], (some 27), none⟩,
     o1 28 (.load 10 [] 0 .nil 2 false),
     o3 29 118 [.t 27, .t 28]])
   (.cond (.t 29)
    (.seq (.rg [o1 4 (.lit [.sl [.i .i64, .i .i64]] [.slice none 0 0]),
      o1 5 (.lit [.b] [.bool false])])
    .ret)
    .skip))
   (.rg [⟨false, [], [], .det 2 (.copy 6), [30, 6, 27], (some 30), none⟩,
     o1 31 (.load 10 [] 0 .nil 2 false),
     o3 32 119 [.t 30, .t 31],
     ⟨false, [], [], .det 2 (.copy 32), [6, 32, 27], (some 6), none⟩]))))
   (.rg [o1 33 (.data (.bin .add) [.t 23, .c (.int .i64 (1))]),
     o1 23 (.copy 33)]))))))))))
  (.rg [o1 34 (.data (.bin .add) [.t 17, .c (.int .i64 (1))]),
    o1 17 (.copy 34)]))))))))
 (.seq (.rg [⟨false, [], [], .det 2 (.copy 6), [35, 6], (some 35), none⟩,
   ⟨false, [], [], .det 2 (.copy 35), [4, 35], (some 4), none⟩,
   o1 5 (.lit [.b] [.bool true])])
 .ret))))
def s_iWholeEdges : Sig := ⟨[.rd false [.sl (.own none) [.sl (.own none) [.d, .d]]], .rd false [.sl (.own none) [.d, .d]]], (.tup [(false, 1), (false, 1)] [.sl (.own none) [.d, .d], .d])⟩
noncomputable def E_iWholeEdges : TEnv := envOf [(118, p_ihasEdge), (119, p_iwithEdge)]
noncomputable def f_iWholeEdges (n : Nat) : (List (List (Int × Int))) × (List (Int × Int)) → Option ((List (Int × Int) × Bool) × Unit) := runFn n E_iWholeEdges c_iWholeEdges [[.sl [.sl [.i .i64, .i .i64]]], [.sl [.i .i64, .i .i64]]] [.sl [.i .i64, .i .i64], .b] [] [4, 5] .no
noncomputable def g_iWholeEdges := f_iWholeEdges BIG
noncomputable def p_iWholeEdges : TSp := ⟨s_iWholeEdges, [[.sl [.sl [.i .i64, .i .i64]]], [.sl [.i .i64, .i .i64]]], [.sl [.i .i64, .i .i64], .b], [], Ou.j .no, g_iWholeEdges⟩
theorem k_iWholeEdges : chkW PG E_iWholeEdges 41 s_iWholeEdges (c_iWholeEdges.ht 36) .no = some (c_iWholeEdges.wc E_iWholeEdges, [4, 5]) := by kernel_rfl
theorem ok_iWholeEdges : p_iWholeEdges.Ok PG 41 := mkOk (env_cons ok_ihasEdge (env_cons ok_iwithEdge (env_nil PG))) k_iWholeEdges (by kernel_rfl)
theorem e_iWholeEdges (n : Nat) (a0 : List ((List (Int × Int)))) (a1 : List (Int × Int)) : f_iWholeEdges n (a0, a1) =
  Option.bind (bif decide (a0.length ≤ 4294967296) then
    bif decide (a0.length + [a1].length ≤ 4294967296) then
     loopT n (X := (List (Int × Int)) × Int) (B := ((List (Int × Int))) ⊕ ((List (Int × Int)) × Bool)) (fun self1 x0 =>
      bif decide (x0.2 < ((a0 ++ [a1]).length : Int)) then
       Option.bind (bnd (a0 ++ [a1]).length x0.2 fun n2 =>
        Option.bind (a0 ++ [a1])[n2]? fun y3 =>
        loopT n (X := (List (Int × Int)) × Int) (B := ((List (Int × Int))) ⊕ ((List (Int × Int)) × Bool)) (fun self5 x4 =>
         bif decide (x4.2 < (y3.length : Int)) then
          bnd y3.length x4.2 fun n6 =>
          Option.bind y3[n6]? fun y7 =>
          Option.bind (g_ihasEdge (x4.1, y7)) fun r8 =>
          bif r8.1 then
           some (Sum.inr ([], false))
          else Option.bind (g_iwithEdge (x4.1, y7)) fun r9 =>
          self5 (r9.1, IntKind.wrap .i64 (x4.2 + (1 : Int)))
         else some (Sum.inl x4.1)) (x0.1, (0 : Int)) : Option (((List (Int × Int))) ⊕ ((List (Int × Int)) × Bool))) fun y => match y with
       | .inl x10 =>
        self1 (x10, IntKind.wrap .i64 (x0.2 + (1 : Int)))
       | .inr x10 =>
        some (Sum.inr (x10.1, x10.2))
      else some (Sum.inl x0.1)) ([], (0 : Int))
    else none
   else none : Option (((List (Int × Int))) ⊕ ((List (Int × Int)) × Bool))) fun y => match y with
  | .inl x11 =>
   some ((x11, true), ())
  | .inr x11 =>
   some (x11, ()) := by kernel_rfl
/- laws.sameInts -/
def c_lsameInts : TC :=
 (.seq (.rg [o1 4 (.lit [.b] [.bool false])])
 (.seq (.seq (.rg [o1 6 (.copy 0),
   o1 7 (.len 6),
   o1 8 (.copy 1),
   o1 9 (.len 8),
   o1 10 (.data (.bin .neq) [.t 7, .t 9])])
 (.cond (.t 10)
  (.seq (.rg [o1 4 (.lit [.b] [.bool false])])
  .ret)
  .skip))
 (.seq (.join [] 67106864 (some [⟨4, [.b], false⟩]) (.seq (.rg [o1 5 (.lit [.i .i64] [.int .i64 (0)])])
 (.block 0 (.loop [⟨5, [.i .i64], false⟩] 67106864
  (.seq (.seq (.rg [o1 11 (.copy 5),
    o1 12 (.copy 0),
    o1 13 (.len 12),
    o1 14 (.data (.bin .lss) [.t 11, .t 13])])
  (.cond (.t 14)
   .skip
   (.exit 0)))
  (.seq (.block 1 (.seq (.rg [o1 17 (.copy 0),
    o1 18 (.copy 5),
    o1 19 (.index 17 (.t 18)),
    o1 20 (.load 17 [(0, 1)] 0 (.t 19) 1 false),
    o1 21 (.copy 1),
    o1 22 (.copy 5),
    o1 23 (.index 21 (.t 22)),
    o1 24 (.load 21 [(0, 1)] 0 (.t 23) 1 false),
    o1 25 (.data (.bin .neq) [.t 20, .t 24])])
  (.cond (.t 25)
   (.seq (.rg [o1 4 (.lit [.b] [.bool false])])
   .ret)
   .skip)))
  (.rg [o1 15 (.copy 5),
    o1 16 (.data (.bin .add) [.t 15, .c (.int .i64 (1))]),
    o1 5 (.copy 16)])))))))
 (.seq (.rg [o1 4 (.lit [.b] [.bool true])])
 .ret))))
def s_lsameInts : Sig := ⟨[.rd false [.sl (.own none) [.d]], .rd false [.sl (.own none) [.d]]], (.one false [.d])⟩
noncomputable def E_lsameInts : TEnv := envOf []
noncomputable def f_lsameInts (n : Nat) : List (Int) × List (Int) → Option ((Bool) × Unit) := runFn n E_lsameInts c_lsameInts [[.sl [.i .i64]], [.sl [.i .i64]]] [.b] [] [4] .no
noncomputable def g_lsameInts := f_lsameInts BIG
noncomputable def p_lsameInts : TSp := ⟨s_lsameInts, [[.sl [.i .i64]], [.sl [.i .i64]]], [.b], [], Ou.j .no, g_lsameInts⟩
theorem k_lsameInts : chkW PG E_lsameInts 26 s_lsameInts (c_lsameInts.ht 26) .no = some (c_lsameInts.wc E_lsameInts, [4]) := by kernel_rfl
theorem ok_lsameInts : p_lsameInts.Ok PG 26 := mkOk (env_nil PG) k_lsameInts (by kernel_rfl)
theorem e_lsameInts (n : Nat) (a0 : List (Int)) (a1 : List (Int)) : f_lsameInts n (a0, a1) =
  bif !decide ((a0.length : Int) = (a1.length : Int)) then
   some (false, ())
  else Option.bind (loopT n (X := Int) (B := (Unit) ⊕ (Bool)) (fun self1 x0 =>
    bif decide (x0 < (a0.length : Int)) then
     bnd a0.length x0 fun n2 =>
     Option.bind a0[n2]? fun y3 =>
     bnd a1.length x0 fun n4 =>
     Option.bind a1[n4]? fun y5 =>
     bif !decide (y3 = y5) then
      some (Sum.inr false)
     else self1 (IntKind.wrap .i64 (x0 + (1 : Int)))
    else some (Sum.inl ())) (0 : Int) : Option ((Unit) ⊕ (Bool))) fun y => match y with
  | .inl x6 =>
   some (true, ())
  | .inr x6 =>
   some (x6, ()) := by kernel_rfl
/- laws.sameEdges -/
def c_lsameEdges : TC :=
 (.seq (.rg [o1 4 (.lit [.b] [.bool false])])
 (.seq (.seq (.rg [o1 6 (.copy 0),
   o1 7 (.len 6),
   o1 8 (.copy 1),
   o1 9 (.len 8),
   o1 10 (.data (.bin .neq) [.t 7, .t 9])])
 (.cond (.t 10)
  (.seq (.rg [o1 4 (.lit [.b] [.bool false])])
  .ret)
  .skip))
 (.seq (.join [] 67106864 (some [⟨4, [.b], false⟩]) (.seq (.rg [o1 5 (.lit [.i .i64] [.int .i64 (0)])])
 (.block 0 (.loop [⟨5, [.i .i64], false⟩] 67106864
  (.seq (.seq (.rg [o1 11 (.copy 5),
    o1 12 (.copy 0),
    o1 13 (.len 12),
    o1 14 (.data (.bin .lss) [.t 11, .t 13])])
  (.cond (.t 14)
   .skip
   (.exit 0)))
  (.seq (.block 1 (.seq (.rg [o1 17 (.copy 0),
    o1 18 (.copy 5),
    o1 19 (.index 17 (.t 18)),
    o1 20 (.load 17 [(0, 2)] 0 (.t 19) 2 false),
    o1 21 (.copy 1),
    o1 22 (.copy 5),
    o1 23 (.index 21 (.t 22)),
    o1 24 (.load 21 [(0, 2)] 0 (.t 23) 2 false),
    o1 25 (.eqA [.i, .i] (.t 20) (.t 24) true)])
  (.cond (.t 25)
   (.seq (.rg [o1 4 (.lit [.b] [.bool false])])
   .ret)
   .skip)))
  (.rg [o1 15 (.copy 5),
    o1 16 (.data (.bin .add) [.t 15, .c (.int .i64 (1))]),
    o1 5 (.copy 16)])))))))
 (.seq (.rg [o1 4 (.lit [.b] [.bool true])])
 .ret))))
def s_lsameEdges : Sig := ⟨[.rd false [.sl (.own none) [.d, .d]], .rd false [.sl (.own none) [.d, .d]]], (.one false [.d])⟩
noncomputable def E_lsameEdges : TEnv := envOf []
noncomputable def f_lsameEdges (n : Nat) : (List (Int × Int)) × (List (Int × Int)) → Option ((Bool) × Unit) := runFn n E_lsameEdges c_lsameEdges [[.sl [.i .i64, .i .i64]], [.sl [.i .i64, .i .i64]]] [.b] [] [4] .no
noncomputable def g_lsameEdges := f_lsameEdges BIG
noncomputable def p_lsameEdges : TSp := ⟨s_lsameEdges, [[.sl [.i .i64, .i .i64]], [.sl [.i .i64, .i .i64]]], [.b], [], Ou.j .no, g_lsameEdges⟩
theorem k_lsameEdges : chkW PG E_lsameEdges 21 s_lsameEdges (c_lsameEdges.ht 26) .no = some (c_lsameEdges.wc E_lsameEdges, [4]) := by kernel_rfl
theorem ok_lsameEdges : p_lsameEdges.Ok PG 21 := mkOk (env_nil PG) k_lsameEdges (by kernel_rfl)
theorem e_lsameEdges (n : Nat) (a0 : List (Int × Int)) (a1 : List (Int × Int)) : f_lsameEdges n (a0, a1) =
  bif !decide ((a0.length : Int) = (a1.length : Int)) then
   some (false, ())
  else Option.bind (loopT n (X := Int) (B := (Unit) ⊕ (Bool)) (fun self1 x0 =>
    bif decide (x0 < (a0.length : Int)) then
     bnd a0.length x0 fun n2 =>
     Option.bind a0[n2]? fun y3 =>
     bnd a1.length x0 fun n4 =>
     Option.bind a1[n4]? fun y5 =>
     bif !(decide (y3.1 = y5.1) && (decide (y3.2 = y5.2) && true)) then
      some (Sum.inr false)
     else self1 (IntKind.wrap .i64 (x0 + (1 : Int)))
    else some (Sum.inl ())) (0 : Int) : Option ((Unit) ⊕ (Bool))) fun y => match y with
  | .inl x6 =>
   some (true, ())
  | .inr x6 =>
   some (x6, ()) := by kernel_rfl
/- laws.FnWholes -/
def c_lFnWholes : TC :=
 (.seq (.rg [o1 2 (.lit [.b] [.bool false])])
 (.seq (.seq (.rg [o1 16 (.copy 0),
   o3 17 17 [.t 16]])
 (.cond (.t 17)
  (.seq (.rg [o1 2 (.lit [.b] [.bool true])])
  .ret)
  .skip))
 (.seq (.rg [o1 19 (.copy 0),
   o3 20 31 [.t 19],
   ⟨false, [], [], .det 2 (.copy 20), [18, 20], (some 18), none⟩,
   ⟨false, [], [], .det 2 (.ext 18 0 2), [21, 18], (some 21), none⟩,
   o1 22 (.ext 18 2 2),
   ⟨false, [], [], .det 2 (.a (.c [.i .i64, .sl [.i .i64, .i .i64]] [.int .i64 (0), .slice none 0 0])), [3, 1000000001], (some 3), none⟩,
   ⟨false, [], [], .det 2 (.a (.c [.i .i64, .i .i64] [.int .i64 (0), .int .i64 (0)])), [4, 1000000001], (some 4), none⟩,
   o4 2 [3, 21] (.store 3 [] 0 .nil (.t 21)),
   o4 1 [4] (.store 4 [] 0 .nil (.t 22))])
 (.seq (.rg [o1 23 (.copy 0),
   o3 24 25 [.t 23],
   ⟨false, [], [], .det 2 (.copy 24), [5, 24], (some 5), none⟩])
 (.seq (.rg [o1 25 (.idx .nil),
   o1 26 (.load 3 [] 0 (.t 25) 1 false),
   o1 27 (.build [.i .i64, .sl [.i .i64, .i .i64]] [(0, .t 26)]),
   ⟨false, [], [], .det 2 (.a (.c [.i .i64, .sl [.i .i64, .i .i64]] [.int .i64 (0), .slice none 0 0])), [6, 1000000001], (some 6), none⟩,
   o4 2 [6, 27] (.store 6 [] 0 .nil (.t 27))])
 (.seq (.rg [o1 28 (.idx .nil),
   o1 29 (.load 3 [] 0 (.t 28) 1 false),
   o1 30 (.build [.i .i64, .sl [.i .i64, .i .i64]] [(0, .t 29)]),
   ⟨false, [], [], .det 2 (.a (.c [.i .i64, .sl [.i .i64, .i .i64]] [.int .i64 (0), .slice none 0 0])), [7, 1000000001], (some 7), none⟩,
   o4 2 [7, 30] (.store 7 [] 0 .nil (.t 30))])
 (.seq (.rg [o1 31 (.sli [.i .i64, .i .i64] []),
   ⟨false, [], [], .det 2 (.copy 31), [8, 31], (some 8), none⟩])
 (.seq (.join [⟨6, [.i .i64, .sl [.i .i64, .i .i64]], false⟩, ⟨7, [.i .i64, .sl [.i .i64, .i .i64]], false⟩, ⟨8, [.sl [.i .i64, .i .i64]], false⟩] 604462909807310292386752 none (.seq (.rg [o1 9 (.lit [.i .i64] [.int .i64 (0)])])
 (.block 0 (.loop [⟨6, [.i .i64, .sl [.i .i64, .i .i64]], false⟩, ⟨7, [.i .i64, .sl [.i .i64, .i .i64]], false⟩, ⟨8, [.sl [.i .i64, .i .i64]], false⟩, ⟨9, [.i .i64], false⟩] 604462909807310292386752
  (.seq (.seq (.rg [o1 32 (.copy 9),
    o1 33 (.idx .nil),
    o1 34 (.load 3 [] 1 (.t 33) 1 true),
    o1 35 (.len 34),
    o1 36 (.data (.bin .lss) [.t 32, .t 35])])
  (.cond (.t 36)
   .skip
   (.exit 0)))
  (.seq (.join [⟨6, [.i .i64, .sl [.i .i64, .i .i64]], false⟩, ⟨7, [.i .i64, .sl [.i .i64, .i .i64]], false⟩, ⟨8, [.sl [.i .i64, .i .i64]], false⟩] 604462909806764831539648 none (.block 1 (.seq (.rg [⟨true, [], [], .det 1 (.copy 5), [39], (some 39), none⟩,
    o1 40 (.copy 9),
    o1 41 (.data (.bin .rem) [.t 40, .c (.int .i64 (12))]),
    o1 42 (.index 39 (.t 41)),
    o1 43 (.load 5 [(0, 1)] 0 (.t 42) 1 false),
    o1 44 (.copy 9),
    o1 45 (.data (.bin .add) [.t 43, .t 44]),
    o1 46 (.data (.bin .rem) [.t 45, .c (.int .i64 (3))])])
  (.block 2 (.seq (.rg [o1 56 (.data (.bin .eql) [.t 46, .c (.int .i64 (0))]),
    o1 55 (.copy 56)])
  (.cond (.t 55)
   (.rg [o1 57 (.idx .nil),
     o1 58 (.load 6 [] 1 (.t 57) 1 true),
     o1 59 (.idx .nil),
     o1 60 (.load 3 [] 1 (.t 59) 1 true),
     o1 61 (.copy 9),
     o1 62 (.index 60 (.t 61)),
     o1 63 (.load 3 [(1, 2)] 0 (.t 62) 2 false),
     o1 64 (.sli [.i .i64, .i .i64] [.t 63]),
     ⟨false, [58], [], .det 2 (.app (some 58) 64), [65, 58, 58, 6], (some 65), none⟩,
     o1 66 (.idx .nil),
     o4 2 [6, 65, 58] (.store 6 [] 1 (.t 66) (.t 65))])
   (.seq (.rg [o1 68 (.data (.bin .eql) [.t 46, .c (.int .i64 (1))]),
     o1 67 (.copy 68)])
   (.cond (.t 67)
    (.rg [o1 69 (.idx .nil),
      o1 70 (.load 7 [] 1 (.t 69) 1 true),
      o1 71 (.idx .nil),
      o1 72 (.load 3 [] 1 (.t 71) 1 true),
      o1 73 (.copy 9),
      o1 74 (.index 72 (.t 73)),
      o1 75 (.load 3 [(1, 2)] 0 (.t 74) 2 false),
      o1 76 (.sli [.i .i64, .i .i64] [.t 75]),
      ⟨false, [70], [], .det 2 (.app (some 70) 76), [77, 70, 70, 7], (some 77), none⟩,
      o1 78 (.idx .nil),
      o4 2 [7, 77, 70] (.store 7 [] 1 (.t 78) (.t 77))])
    (.rg [⟨false, [], [], .det 2 (.copy 8), [47, 8], (some 47), none⟩,
      o1 48 (.idx .nil),
      o1 49 (.load 3 [] 1 (.t 48) 1 true),
      o1 50 (.copy 9),
      o1 51 (.index 49 (.t 50)),
      o1 52 (.load 3 [(1, 2)] 0 (.t 51) 2 false),
      o1 53 (.sli [.i .i64, .i .i64] [.t 52]),
      ⟨false, [], [], .det 2 (.app (some 47) 53), [54, 47], (some 54), none⟩,
      ⟨false, [], [], .det 2 (.copy 54), [8, 54], (some 8), none⟩])))))))))
  (.rg [o1 37 (.copy 9),
    o1 38 (.data (.bin .add) [.t 37, .c (.int .i64 (1))]),
    o1 9 (.copy 38)])))))))
 (.seq (.rg [o1 80 (.idx .nil),
   o1 81 (.load 3 [] 0 (.t 80) 1 false),
   o1 82 (.load 6 [] 0 .nil 2 true),
   o3 83 33 [.t 82],
   o1 84 (.load 7 [] 0 .nil 2 true),
   o3 85 33 [.t 84],
   ⟨false, [], [], .det 3 (.sli [.sl [.i .i64]] [.t 83, .t 85]), [86, 83, 85], (some 86), none⟩,
   ⟨true, [], [], .det 1 (.copy 8), [87], (some 87), none⟩,
   o3 88 40 [.t 81, .t 86, .t 87],
   ⟨false, [], [], .det 2 (.copy 88), [79, 88], (some 79), none⟩,
   ⟨false, [], [], .det 2 (.ext 79 0 1), [89, 79], (some 89), none⟩,
   o1 90 (.ext 79 1 1),
   ⟨false, [], [], .det 2 (.copy 89), [10, 89], (some 10), none⟩,
   o1 11 (.copy 90)])
 (.seq (.rg [o1 92 (.idx .nil),
   o1 93 (.load 6 [] 1 (.t 92) 1 true),
   o1 94 (.idx .nil),
   o1 95 (.load 7 [] 1 (.t 94) 1 true),
   o1 96 (.sli [.sl [.i .i64, .i .i64]] [.t 93, .t 95]),
   ⟨true, [], [], .det 1 (.copy 8), [97], (some 97), none⟩,
   o3 98 41 [.t 96, .t 97],
   ⟨false, [], [], .det 2 (.copy 98), [91, 98], (some 91), none⟩,
   ⟨false, [], [], .det 2 (.ext 91 0 1), [99, 91], (some 99), none⟩,
   o1 100 (.ext 91 1 1),
   ⟨false, [], [], .det 2 (.copy 99), [12, 99], (some 12), none⟩,
   o1 13 (.copy 100)])
 (.seq (.rg [o1 102 (.idx .nil),
   o1 103 (.load 6 [] 1 (.t 102) 1 true),
   o1 104 (.idx .nil),
   o1 105 (.load 6 [] 1 (.t 104) 1 true),
   o1 106 (.sli [.sl [.i .i64, .i .i64]] [.t 103, .t 105]),
   ⟨false, [], [], .det 2 (.copy 8), [107, 8, 87, 97], (some 107), none⟩,
   o3 108 41 [.t 106, .t 107],
   ⟨false, [], [], .det 2 (.copy 108), [101, 108], (some 101), none⟩,
   ⟨false, [], [], .det 2 (.ext 101 0 1), [109, 101], (some 109), none⟩,
   o1 110 (.ext 101 1 1),
   ⟨false, [], [], .det 2 (.copy 109), [14, 109], (some 14), none⟩,
   o1 15 (.copy 110)])
 (.seq (.join [⟨2, [.b], false⟩] 43556140369731694055898135486018166461444 none (.rg [o1 111 (.copy 11),
   o1 112 (.copy 111),
   o2 113 (.copy 13) 1 true,
   ⟨false, [], [], .pick 112 (.t 113) (.c (.bool false)), [114], (some 114), none⟩,
   o1 115 (.copy 114),
   ⟨false, [], [], .det 2 (.copy 10), [116, 10], (some 116), some (4, true)⟩,
   o2 117 (.load 3 [] 0 .nil 2 true) 4 true,
   ⟨false, [], [], .call 1 33 [.t 117] .no, [118], (some 118), some (4, true)⟩,
   ⟨false, [], [], .call 1 26 [.t 116, .t 118] .no, [119], (some 119), some (4, true)⟩,
   ⟨false, [], [], .pick 115 (.t 119) (.c (.bool false)), [120], (some 120), none⟩,
   o1 121 (.copy 120),
   ⟨false, [], [], .det 2 (.copy 12), [122, 12], (some 122), some (10, true)⟩,
   o2 123 (.idx .nil) 10 true,
   o2 124 (.load 3 [] 1 (.t 123) 1 true) 10 true,
   ⟨false, [], [], .call 1 21 [.t 122, .t 124] .no, [125], (some 125), some (10, true)⟩,
   ⟨false, [], [], .pick 121 (.t 125) (.c (.bool false)), [126], (some 126), none⟩,
   o1 127 (.copy 126),
   o2 128 (.copy 15) 16 true,
   o2 129 (.idx .nil) 16 true,
   o2 130 (.load 6 [] 1 (.t 129) 1 true) 16 true,
   o2 131 (.len 130) 16 true,
   o2 132 (.data (.bin .eql) [.t 131, .c (.int .i64 (0))]) 16 true,
   o2 133 (.data (.beq false) [.t 128, .t 132]) 16 true,
   ⟨false, [], [], .pick 127 (.t 133) (.c (.bool false)), [134], (some 134), none⟩,
   o1 2 (.copy 134)]))
 .ret))))))))))))
def s_lFnWholes : Sig := ⟨[.rd false [.sl (.own none) [.d]]], (.one false [.d])⟩
noncomputable def E_lFnWholes : TEnv := envOf [(17, p_lbig), (31, p_sDrawRightGraph), (25, p_sDrawPlaces), (33, p_sLabels), (40, p_iWholeLabels), (41, p_iWholeEdges), (26, p_lsameInts), (21, p_lsameEdges)]
noncomputable def f_lFnWholes (n : Nat) : List (Int) → Option ((Bool) × Unit) := runFn n E_lFnWholes c_lFnWholes [[.sl [.i .u8]]] [.b] [] [2] .no
noncomputable def g_lFnWholes := f_lFnWholes BIG
noncomputable def p_lFnWholes : TSp := ⟨s_lFnWholes, [[.sl [.i .u8]]], [.b], [], Ou.j .no, g_lFnWholes⟩
theorem k_lFnWholes : chkW PG E_lFnWholes 8 s_lFnWholes (c_lFnWholes.ht 135) .no = some (c_lFnWholes.wc E_lFnWholes, [2]) := by kernel_rfl
theorem ok_lFnWholes : p_lFnWholes.Ok PG 8 := mkOk (env_cons ok_lbig (env_cons ok_sDrawRightGraph (env_cons ok_sDrawPlaces (env_cons ok_sLabels (env_cons ok_iWholeLabels (env_cons ok_iWholeEdges (env_cons ok_lsameInts (env_cons ok_lsameEdges (env_nil PG))))))))) k_lFnWholes (by kernel_rfl)
theorem e_lFnWholes (n : Nat) (a0 : List (Int)) : f_lFnWholes n a0 =
  Option.bind (g_lbig a0) fun r0 =>
  bif r0.1 then
   some (true, ())
  else Option.bind (g_sDrawRightGraph a0) fun r1 =>
  Option.bind (g_sDrawPlaces a0) fun r2 =>
  Option.bind (loopT n (X := (Int × List (Int × Int)) × (Int × List (Int × Int)) × (List (Int × Int)) × Int) (B := (Int × List (Int × Int)) × (Int × List (Int × Int)) × (List (Int × Int))) (fun self4 x3 =>
    bif decide (x3.2.2.2 < (r1.1.2.1.length : Int)) then
     Option.bind (bif decide ((12 : Int) = 0) then
       none
      else bnd r2.1.length (Int.tmod x3.2.2.2 (12 : Int)) fun n5 =>
      Option.bind r2.1[n5]? fun y6 =>
      bif decide ((3 : Int) = 0) then
       none
      else bif decide ((Int.tmod (IntKind.wrap .i64 (y6 + x3.2.2.2)) (3 : Int)) = (0 : Int)) then
       bnd r1.1.2.1.length x3.2.2.2 fun n7 =>
       Option.bind r1.1.2.1[n7]? fun y8 =>
       bif decide (x3.1.2.length + [y8].length ≤ 4294967296) then
        some ((x3.1.1, x3.1.2 ++ [y8]), x3.2.1, x3.2.2.1)
       else none
      else bif decide ((Int.tmod (IntKind.wrap .i64 (y6 + x3.2.2.2)) (3 : Int)) = (1 : Int)) then
       bnd r1.1.2.1.length x3.2.2.2 fun n9 =>
       Option.bind r1.1.2.1[n9]? fun y10 =>
       bif decide (x3.2.1.2.length + [y10].length ≤ 4294967296) then
        some (x3.1, (x3.2.1.1, x3.2.1.2 ++ [y10]), x3.2.2.1)
       else none
      else bnd r1.1.2.1.length x3.2.2.2 fun n11 =>
      Option.bind r1.1.2.1[n11]? fun y12 =>
      bif decide (x3.2.2.1.length + [y12].length ≤ 4294967296) then
       some (x3.1, x3.2.1, x3.2.2.1 ++ [y12])
      else none : Option ((Int × List (Int × Int)) × (Int × List (Int × Int)) × (List (Int × Int)))) fun x13 =>
     self4 (x13.1, x13.2.1, x13.2.2, IntKind.wrap .i64 (x3.2.2.2 + (1 : Int)))
    else some (x3.1, x3.2.1, x3.2.2.1)) ((r1.1.1, []), (r1.1.1, []), [], (0 : Int)) : Option ((Int × List (Int × Int)) × (Int × List (Int × Int)) × (List (Int × Int)))) fun x14 =>
  Option.bind (g_sLabels x14.1) fun r15 =>
  Option.bind (g_sLabels x14.2.1) fun r16 =>
  Option.bind (g_iWholeLabels (r1.1.1, [r15.1, r16.1], x14.2.2)) fun r17 =>
  Option.bind (g_iWholeEdges ([x14.1.2, x14.2.1.2], x14.2.2)) fun r18 =>
  Option.bind (g_iWholeEdges ([x14.1.2, x14.1.2], x14.2.2)) fun r19 =>
  Option.bind (bif r17.1.2 then
    bif r18.1.2 then
     Option.bind (g_sLabels (r1.1.1, r1.1.2.1)) fun r20 =>
     Option.bind (g_lsameInts (r17.1.1, r20.1)) fun r21 =>
     bif r21.1 then
      Option.bind (g_lsameEdges (r18.1.1, r1.1.2.1)) fun r22 =>
      bif r22.1 then
       some (r19.1.2 == (decide ((x14.1.2.length : Int) = (0 : Int))))
      else some false
     else some false
    else some false
   else some false : Option (Bool)) fun x23 =>
  some (x23, ()) := by kernel_rfl
/- spec.l05SameInts -/
def c_sl05SameInts : TC :=
 (.seq (.rg [o1 4 (.lit [.b] [.bool false])])
 (.seq (.seq (.rg [o1 6 (.copy 0),
   o1 7 (.len 6),
   o1 8 (.copy 1),
   o1 9 (.len 8),
   o1 10 (.data (.bin .neq) [.t 7, .t 9])])
 (.cond (.t 10)
  (.seq (.rg [o1 4 (.lit [.b] [.bool false])])
  .ret)
  .skip))
 (.seq (.join [] 67106864 (some [⟨4, [.b], false⟩]) (.seq (.rg [o1 5 (.lit [.i .i64] [.int .i64 (0)])])
 (.block 0 (.loop [⟨5, [.i .i64], false⟩] 67106864
  (.seq (.seq (.rg [o1 11 (.copy 5),
    o1 12 (.copy 0),
    o1 13 (.len 12),
    o1 14 (.data (.bin .lss) [.t 11, .t 13])])
  (.cond (.t 14)
   .skip
   (.exit 0)))
  (.seq (.block 1 (.seq (.rg [o1 17 (.copy 0),
    o1 18 (.copy 5),
    o1 19 (.index 17 (.t 18)),
    o1 20 (.load 17 [(0, 1)] 0 (.t 19) 1 false),
    o1 21 (.copy 1),
    o1 22 (.copy 5),
    o1 23 (.index 21 (.t 22)),
    o1 24 (.load 21 [(0, 1)] 0 (.t 23) 1 false),
    o1 25 (.data (.bin .neq) [.t 20, .t 24])])
  (.cond (.t 25)
   (.seq (.rg [o1 4 (.lit [.b] [.bool false])])
   .ret)
   .skip)))
  (.rg [o1 15 (.copy 5),
    o1 16 (.data (.bin .add) [.t 15, .c (.int .i64 (1))]),
    o1 5 (.copy 16)])))))))
 (.seq (.rg [o1 4 (.lit [.b] [.bool true])])
 .ret))))
def s_sl05SameInts : Sig := ⟨[.rd false [.sl (.own none) [.d]], .rd false [.sl (.own none) [.d]]], (.one false [.d])⟩
noncomputable def E_sl05SameInts : TEnv := envOf []
noncomputable def f_sl05SameInts (n : Nat) : List (Int) × List (Int) → Option ((Bool) × Unit) := runFn n E_sl05SameInts c_sl05SameInts [[.sl [.i .i64]], [.sl [.i .i64]]] [.b] [] [4] .no
noncomputable def g_sl05SameInts := f_sl05SameInts BIG
noncomputable def p_sl05SameInts : TSp := ⟨s_sl05SameInts, [[.sl [.i .i64]], [.sl [.i .i64]]], [.b], [], Ou.j .no, g_sl05SameInts⟩
theorem k_sl05SameInts : chkW PG E_sl05SameInts 131 s_sl05SameInts (c_sl05SameInts.ht 26) .no = some (c_sl05SameInts.wc E_sl05SameInts, [4]) := by kernel_rfl
theorem ok_sl05SameInts : p_sl05SameInts.Ok PG 131 := mkOk (env_nil PG) k_sl05SameInts (by kernel_rfl)
theorem e_sl05SameInts (n : Nat) (a0 : List (Int)) (a1 : List (Int)) : f_sl05SameInts n (a0, a1) =
  bif !decide ((a0.length : Int) = (a1.length : Int)) then
   some (false, ())
  else Option.bind (loopT n (X := Int) (B := (Unit) ⊕ (Bool)) (fun self1 x0 =>
    bif decide (x0 < (a0.length : Int)) then
     bnd a0.length x0 fun n2 =>
     Option.bind a0[n2]? fun y3 =>
     bnd a1.length x0 fun n4 =>
     Option.bind a1[n4]? fun y5 =>
     bif !decide (y3 = y5) then
      some (Sum.inr false)
     else self1 (IntKind.wrap .i64 (x0 + (1 : Int)))
    else some (Sum.inl ())) (0 : Int) : Option ((Unit) ⊕ (Bool))) fun y => match y with
  | .inl x6 =>
   some (true, ())
  | .inr x6 =>
   some (x6, ()) := by kernel_rfl
end Go.Fw
