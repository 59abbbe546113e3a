/- The given functions, as what they compute; each is shown to be what the code does. No conditions. -/
import Derived.Test.YthgfbaannligeaaG4
import Derived.Test.YthgfbaannligeaaProg
set_option linter.unusedVariables false
set_option linter.unusedSimpArgs false
namespace Go.Fw
noncomputable abbrev PG := Go.Proofs.Try.prog
def o2 (d : Nat) (e : ED) (j : Nat) (b : Bool) : TO := ⟨false, [], [], .det 1 e, [d], some d, some (j, b)⟩
def o3 (d : Nat) (K : FuncId) (gets : List OY) : TO := ⟨false, [], [], .call 1 K gets .no, [d], some d, none⟩
def o4 (n : Nat) (ds : List Nat) (e : ED) : TO := ⟨false, [], [], .det n e, ds, none, none⟩
end Go.Fw
namespace Go.Fw
/- laws.big -/
def c_lbig : TC :=
 (.seq (.rg [o1 2 (.lit [.b] [.bool false])])
 (.seq (.rg [o1 3 (.copy 0),
   o1 4 (.len 3),
   o1 5 (.data (.bin .gtr) [.t 4, .c (.int .i64 (1048576))]),
   o1 2 (.copy 5)])
 .ret))
def s_lbig : Sig := ⟨[.rd false [.sl (.own none) [.d]]], (.one false [.d])⟩
noncomputable def E_lbig : TEnv := envOf []
noncomputable def f_lbig (n : Nat) : List (Int) → Option ((Bool) × Unit) := runFn n E_lbig c_lbig [[.sl [.i .u8]]] [.b] [] [2] .no
noncomputable def g_lbig := f_lbig BIG
noncomputable def p_lbig : TSp := ⟨s_lbig, [[.sl [.i .u8]]], [.b], [], Ou.j .no, g_lbig⟩
theorem k_lbig : chkW PG E_lbig 27 s_lbig (c_lbig.ht 6) .no = some (c_lbig.wc E_lbig, [2]) := by kernel_rfl
theorem ok_lbig : p_lbig.Ok PG 27 := mkOk (env_nil PG) k_lbig (by kernel_rfl)
theorem e_lbig (n : Nat) (a0 : List (Int)) : f_lbig n a0 =
  some (decide ((1048576 : Int) < (a0.length : Int)), ()) := by kernel_rfl
/- spec.l01New -/
def c_sl01New : TC :=
 (.seq (.rg [o1 2 (.nl)])
 (.seq (.rg [o1 5 (.copy 0),
   o1 6 (.len 5),
   o1 7 (.data (.bin .add) [.c (.int .i64 (13501)), .t 6]),
   o1 3 (.copy 7)])
 (.seq (.join [⟨3, [.i .i64], false⟩] 268435224 none (.seq (.rg [o1 4 (.lit [.i .i64] [.int .i64 (0)])])
 (.block 0 (.loop [⟨3, [.i .i64], false⟩, ⟨4, [.i .i64], false⟩] 268435224
  (.seq (.seq (.join [⟨15, [.b], false⟩] 65280 none (.rg [o1 8 (.copy 4),
    o1 9 (.copy 0),
    o1 10 (.len 9),
    o1 11 (.data (.bin .lss) [.t 8, .t 10]),
    o1 12 (.copy 11),
    o2 13 (.copy 4) 4 true,
    o2 14 (.data (.bin .lss) [.t 13, .c (.int .i64 (4000))]) 4 true,
    ⟨false, [], [], .pick 12 (.t 14) (.c (.bool false)), [15], (some 15), none⟩]))
  (.cond (.t 15)
   .skip
   (.exit 0)))
  (.seq (.block 1 (.rg [o1 18 (.copy 3),
    o1 19 (.data (.bin .mul) [.t 18, .c (.int .i64 (131))]),
    o1 20 (.copy 0),
    o1 21 (.copy 4),
    o1 22 (.index 20 (.t 21)),
    o1 23 (.load 20 [(0, 1)] 0 (.t 22) 1 false),
    o1 24 (.data (.conv .i64) [.t 23]),
    o1 25 (.data (.bin .add) [.t 19, .t 24]),
    o1 26 (.data (.bin .add) [.t 25, .c (.int .i64 (7))]),
    o1 27 (.data (.bin .and) [.t 26, .c (.int .i64 (1073741823))]),
    o1 3 (.copy 27)]))
  (.rg [o1 16 (.copy 4),
    o1 17 (.data (.bin .add) [.t 16, .c (.int .i64 (1))]),
    o1 4 (.copy 17)])))))))
 (.seq (.rg [o1 28 (.copy 0),
   o1 29 (.copy 3),
   o1 30 (.build [.sl [.i .u8], .i .i64, .i .i64] [(0, .t 28), (2, .t 29)]),
   o1 31 (.a (.t 30)),
   ⟨true, [], [], .det 2 (.copy 31), [2, 31], (some 2), none⟩])
 .ret))))
def s_sl01New : Sig := ⟨[.rd false [.sl (.own none) [.d]]], (.bx [.sl (.ro [0]) [.d], .d, .d])⟩
noncomputable def E_sl01New : TEnv := envOf []
noncomputable def f_sl01New (n : Nat) : List (Int) → Option ((List (Int) × Int × Int) × Unit) := runFn n E_sl01New c_sl01New [[.sl [.i .u8]]] [.sl [.i .u8], .i .i64, .i .i64] [] [2] .no
noncomputable def g_sl01New := f_sl01New BIG
noncomputable def p_sl01New : TSp := ⟨s_sl01New, [[.sl [.i .u8]]], [.sl [.i .u8], .i .i64, .i .i64], [], Ou.j .no, g_sl01New⟩
theorem k_sl01New : chkW PG E_sl01New 158 s_sl01New (c_sl01New.ht 32) .no = some (c_sl01New.wc E_sl01New, [2]) := by kernel_rfl
theorem ok_sl01New : p_sl01New.Ok PG 158 := mkOk (env_nil PG) k_sl01New (by kernel_rfl)
theorem e_sl01New (n : Nat) (a0 : List (Int)) : f_sl01New n a0 =
  Option.bind (loopT n (X := Int × Int) (B := Int) (fun self1 x0 =>
    Option.bind (bif decide (x0.2 < (a0.length : Int)) then
      some (decide (x0.2 < (4000 : Int)))
     else some false : Option (Bool)) fun x2 =>
    bif x2 then
     bnd a0.length x0.2 fun n3 =>
     Option.bind a0[n3]? fun y4 =>
     self1 (bits .and .i64 (IntKind.wrap .i64 ((IntKind.wrap .i64 ((IntKind.wrap .i64 (x0.1 * (131 : Int))) + (IntKind.wrap .i64 (y4)))) + (7 : Int))) (1073741823 : Int), IntKind.wrap .i64 (x0.2 + (1 : Int)))
    else some x0.1) (IntKind.wrap .i64 ((13501 : Int) + (a0.length : Int)), (0 : Int)) : Option (Int)) fun x5 =>
  some ((a0, (0 : Int), x5), ()) := by kernel_rfl
/- spec.l01Byte -/
def c_sl01Byte : TC :=
 (.seq (.rg [o1 2 (.lit [.i .i64] [.int .i64 (0)])])
 (.seq (.rg [o1 4 (.p0),
   o1 5 (.p0),
   o1 6 (.same 5),
   o1 7 (.idx (.t 6)),
   o1 8 (.load 0 [] 2 (.t 7) 1 false),
   o1 9 (.data (.bin .mul) [.t 8, .c (.int .i64 (6364136223846793005))]),
   o1 10 (.data (.bin .add) [.t 9, .c (.int .i64 (1442695040888963407))]),
   o1 11 (.same 4),
   o1 12 (.idx (.t 11)),
   o4 1 [0] (.store 0 [] 2 (.t 12) (.t 10))])
 (.seq (.rg [o1 13 (.p0),
   o1 14 (.same 13),
   o1 15 (.idx (.t 14)),
   o1 16 (.load 0 [] 2 (.t 15) 1 false),
   o1 17 (.data (.bin .shr) [.t 16, .c (.int .u64 (33))]),
   o1 18 (.p0),
   o1 19 (.same 18),
   o1 20 (.idx (.t 19)),
   o1 21 (.load 0 [] 2 (.t 20) 1 false),
   o1 22 (.data (.bin .shr) [.t 21, .c (.int .u64 (45))]),
   o1 23 (.data (.bin .xor) [.t 17, .t 22]),
   o1 24 (.data (.bin .and) [.t 23, .c (.int .i64 (255))]),
   o1 3 (.copy 24)])
 (.seq (.join [⟨3, [.i .i64], false⟩, ⟨0, [.sl [.i .u8], .i .i64, .i .i64], false⟩] 144115188042301449 none (.seq (.rg [o1 25 (.p0),
   o1 26 (.same 25),
   o1 27 (.idx (.t 26)),
   o1 28 (.load 0 [] 1 (.t 27) 1 false),
   o1 29 (.p0),
   o1 30 (.same 29),
   o1 31 (.idx (.t 30)),
   o1 32 (.load 0 [] 0 (.t 31) 1 false),
   o1 33 (.len 32),
   o1 34 (.data (.bin .lss) [.t 28, .t 33])])
 (.cond (.t 34)
  (.seq (.rg [o1 35 (.copy 3),
    o1 36 (.p0),
    o1 37 (.same 36),
    o1 38 (.idx (.t 37)),
    o1 39 (.load 0 [] 0 (.t 38) 1 false),
    o1 40 (.p0),
    o1 41 (.same 40),
    o1 42 (.idx (.t 41)),
    o1 43 (.load 0 [] 1 (.t 42) 1 false),
    o1 44 (.index 39 (.t 43)),
    o1 45 (.load 39 [(0, 1)] 0 (.t 44) 1 false),
    o1 46 (.data (.conv .i64) [.t 45]),
    o1 47 (.data (.bin .add) [.t 35, .t 46]),
    o1 48 (.data (.bin .and) [.t 47, .c (.int .i64 (255))]),
    o1 3 (.copy 48)])
  (.rg [o1 49 (.p0),
    o1 50 (.p0),
    o1 51 (.same 50),
    o1 52 (.idx (.t 51)),
    o1 53 (.load 0 [] 1 (.t 52) 1 false),
    o1 54 (.data (.bin .add) [.t 53, .c (.int .i64 (1))]),
    o1 55 (.same 49),
    o1 56 (.idx (.t 55)),
    o4 1 [0] (.store 0 [] 1 (.t 56) (.t 54))]))
  .skip)))
 (.seq (.rg [o1 57 (.copy 3),
   o1 2 (.copy 57)])
 .ret)))))
def s_sl01Byte : Sig := ⟨[.mp [.sl (.ro []) [.d], .d, .d]], (.one false [.d])⟩
noncomputable def E_sl01Byte : TEnv := envOf []
noncomputable def f_sl01Byte (n : Nat) : (List (Int) × Int × Int) → Option ((Int) × List (Int) × Int × Int) := runFn n E_sl01Byte c_sl01Byte [[.sl [.i .u8], .i .i64, .i .i64]] [.i .i64] [.sl [.i .u8], .i .i64, .i .i64] [2] (.mp 0)
noncomputable def g_sl01Byte := f_sl01Byte BIG
noncomputable def p_sl01Byte : TSp := ⟨s_sl01Byte, [[.sl [.i .u8], .i .i64, .i .i64]], [.i .i64], [.sl [.i .u8], .i .i64, .i .i64], Ou.j (.mp 0), g_sl01Byte⟩
theorem k_sl01Byte : chkW PG E_sl01Byte 177 s_sl01Byte (c_sl01Byte.ht 58) (.mp 0) = some (c_sl01Byte.wc E_sl01Byte, [2]) := by kernel_rfl
theorem ok_sl01Byte : p_sl01Byte.Ok PG 177 := mkOk (env_nil PG) k_sl01Byte (by kernel_rfl)
theorem e_sl01Byte (n : Nat) (a0 : List (Int) × Int × Int) : f_sl01Byte n a0 =
  bif decide ((33 : Int) < 0) then
   none
  else bif decide ((45 : Int) < 0) then
   none
  else Option.bind (bif decide (a0.2.1 < (a0.1.length : Int)) then
    bnd a0.1.length a0.2.1 fun n0 =>
    Option.bind a0.1[n0]? fun y1 =>
    some (bits .and .i64 (IntKind.wrap .i64 ((bits .and .i64 (bits .xor .i64 (Int.fdiv (IntKind.wrap .i64 ((IntKind.wrap .i64 (a0.2.2 * (6364136223846793005 : Int))) + (1442695040888963407 : Int))) (2 ^ (Nat.min (Int.toNat (33 : Int)) (IntKind.bits .i64)))) (Int.fdiv (IntKind.wrap .i64 ((IntKind.wrap .i64 (a0.2.2 * (6364136223846793005 : Int))) + (1442695040888963407 : Int))) (2 ^ (Nat.min (Int.toNat (45 : Int)) (IntKind.bits .i64))))) (255 : Int)) + (IntKind.wrap .i64 (y1)))) (255 : Int), (a0.1, IntKind.wrap .i64 (a0.2.1 + (1 : Int)), IntKind.wrap .i64 ((IntKind.wrap .i64 (a0.2.2 * (6364136223846793005 : Int))) + (1442695040888963407 : Int))))
   else some (bits .and .i64 (bits .xor .i64 (Int.fdiv (IntKind.wrap .i64 ((IntKind.wrap .i64 (a0.2.2 * (6364136223846793005 : Int))) + (1442695040888963407 : Int))) (2 ^ (Nat.min (Int.toNat (33 : Int)) (IntKind.bits .i64)))) (Int.fdiv (IntKind.wrap .i64 ((IntKind.wrap .i64 (a0.2.2 * (6364136223846793005 : Int))) + (1442695040888963407 : Int))) (2 ^ (Nat.min (Int.toNat (45 : Int)) (IntKind.bits .i64))))) (255 : Int), (a0.1, a0.2.1, IntKind.wrap .i64 ((IntKind.wrap .i64 (a0.2.2 * (6364136223846793005 : Int))) + (1442695040888963407 : Int)))) : Option (Int × (List (Int) × Int × Int))) fun x2 =>
  some (x2.1, x2.2) := by kernel_rfl
/- spec.l01Below -/
def c_sl01Below : TC :=
 (.seq (.rg [o1 4 (.lit [.i .i64] [.int .i64 (0)])])
 (.seq (.seq (.rg [o1 9 (.copy 1),
   o1 10 (.data (.bin .leq) [.t 9, .c (.int .i64 (0))])])
 (.cond (.t 10)
  (.seq (.rg [o1 4 (.lit [.i .i64] [.int .i64 (0)])])
  .ret)
  .skip))
 (.seq (.seq (.rg [o1 11 (.copy 1),
   o1 12 (.data (.bin .leq) [.t 11, .c (.int .i64 (256))])])
 (.cond (.t 12)
  (.seq (.rg [o1 13 (.p0),
    ⟨false, [], [], .call 2 177 [.t 0] (.mp 0), [14, 0], (some 14), none⟩,
    o1 15 (.copy 1),
    o1 16 (.data (.bin .rem) [.t 14, .t 15]),
    o1 4 (.copy 16)])
  .ret)
  .skip))
 (.seq (.rg [o1 17 (.p0),
   ⟨false, [], [], .call 2 177 [.t 0] (.mp 0), [18, 0], (some 18), none⟩,
   o1 5 (.copy 18)])
 (.seq (.rg [o1 19 (.p0),
   ⟨false, [], [], .call 2 177 [.t 0] (.mp 0), [20, 0], (some 20), none⟩,
   o1 6 (.copy 20)])
 (.seq (.rg [o1 21 (.p0),
   ⟨false, [], [], .call 2 177 [.t 0] (.mp 0), [22, 0], (some 22), none⟩,
   o1 7 (.copy 22)])
 (.seq (.rg [o1 23 (.p0),
   ⟨false, [], [], .call 2 177 [.t 0] (.mp 0), [24, 0], (some 24), none⟩,
   o1 8 (.copy 24)])
 (.seq (.rg [o1 25 (.copy 5),
   o1 26 (.data (.bin .mul) [.t 25, .c (.int .i64 (16777216))]),
   o1 27 (.copy 6),
   o1 28 (.data (.bin .mul) [.t 27, .c (.int .i64 (65536))]),
   o1 29 (.data (.bin .add) [.t 26, .t 28]),
   o1 30 (.copy 7),
   o1 31 (.data (.bin .mul) [.t 30, .c (.int .i64 (256))]),
   o1 32 (.data (.bin .add) [.t 29, .t 31]),
   o1 33 (.copy 8),
   o1 34 (.data (.bin .add) [.t 32, .t 33]),
   o1 35 (.copy 1),
   o1 36 (.data (.bin .rem) [.t 34, .t 35]),
   o1 4 (.copy 36)])
 .ret))))))))
def s_sl01Below : Sig := ⟨[.mp [.sl (.ro []) [.d], .d, .d], .rd false [.d]], (.one false [.d])⟩
noncomputable def E_sl01Below : TEnv := envOf [(177, p_sl01Byte)]
noncomputable def f_sl01Below (n : Nat) : (List (Int) × Int × Int) × Int → Option ((Int) × List (Int) × Int × Int) := runFn n E_sl01Below c_sl01Below [[.sl [.i .u8], .i .i64, .i .i64], [.i .i64]] [.i .i64] [.sl [.i .u8], .i .i64, .i .i64] [4] (.mp 0)
noncomputable def g_sl01Below := f_sl01Below BIG
noncomputable def p_sl01Below : TSp := ⟨s_sl01Below, [[.sl [.i .u8], .i .i64, .i .i64], [.i .i64]], [.i .i64], [.sl [.i .u8], .i .i64, .i .i64], Ou.j (.mp 0), g_sl01Below⟩
theorem k_sl01Below : chkW PG E_sl01Below 178 s_sl01Below (c_sl01Below.ht 37) (.mp 0) = some (c_sl01Below.wc E_sl01Below, [4]) := by kernel_rfl
theorem ok_sl01Below : p_sl01Below.Ok PG 178 := mkOk (env_cons ok_sl01Byte (env_nil PG)) k_sl01Below (by kernel_rfl)
theorem e_sl01Below (n : Nat) (a0 : List (Int) × Int × Int) (a1 : Int) : f_sl01Below n (a0, a1) =
  bif decide (a1 ≤ (0 : Int)) then
   some ((0 : Int), a0)
  else bif decide (a1 ≤ (256 : Int)) then
   Option.bind (g_sl01Byte a0) fun r0 =>
   bif decide (a1 = 0) then
    none
   else some (Int.tmod r0.1 a1, r0.2)
  else Option.bind (g_sl01Byte a0) fun r1 =>
  Option.bind (g_sl01Byte r1.2) fun r2 =>
  Option.bind (g_sl01Byte r2.2) fun r3 =>
  Option.bind (g_sl01Byte r3.2) fun r4 =>
  bif decide (a1 = 0) then
   none
  else some (Int.tmod (IntKind.wrap .i64 ((IntKind.wrap .i64 ((IntKind.wrap .i64 ((IntKind.wrap .i64 (r1.1 * (16777216 : Int))) + (IntKind.wrap .i64 (r2.1 * (65536 : Int))))) + (IntKind.wrap .i64 (r3.1 * (256 : Int))))) + r4.1)) a1, r4.2) := by kernel_rfl
/- spec.l01Once -/
def c_sl01Once : TC :=
 (.seq (.rg [o1 4 (.lit [.b] [.bool false])])
 (.seq (.rg [o1 5 (.p0),
   o1 6 (.copy 1),
   ⟨false, [], [], .call 2 178 [.t 0, .t 6] (.mp 0), [7, 0], (some 7), none⟩,
   o1 8 (.data (.bin .eql) [.t 7, .c (.int .i64 (0))]),
   o1 4 (.copy 8)])
 .ret))
def s_sl01Once : Sig := ⟨[.mp [.sl (.ro []) [.d], .d, .d], .rd false [.d]], (.one false [.d])⟩
noncomputable def E_sl01Once : TEnv := envOf [(178, p_sl01Below)]
noncomputable def f_sl01Once (n : Nat) : (List (Int) × Int × Int) × Int → Option ((Bool) × List (Int) × Int × Int) := runFn n E_sl01Once c_sl01Once [[.sl [.i .u8], .i .i64, .i .i64], [.i .i64]] [.b] [.sl [.i .u8], .i .i64, .i .i64] [4] (.mp 0)
noncomputable def g_sl01Once := f_sl01Once BIG
noncomputable def p_sl01Once : TSp := ⟨s_sl01Once, [[.sl [.i .u8], .i .i64, .i .i64], [.i .i64]], [.b], [.sl [.i .u8], .i .i64, .i .i64], Ou.j (.mp 0), g_sl01Once⟩
theorem k_sl01Once : chkW PG E_sl01Once 227 s_sl01Once (c_sl01Once.ht 9) (.mp 0) = some (c_sl01Once.wc E_sl01Once, [4]) := by kernel_rfl
theorem ok_sl01Once : p_sl01Once.Ok PG 227 := mkOk (env_cons ok_sl01Below (env_nil PG)) k_sl01Once (by kernel_rfl)
theorem e_sl01Once (n : Nat) (a0 : List (Int) × Int × Int) (a1 : Int) : f_sl01Once n (a0, a1) =
  Option.bind (g_sl01Below (a0, a1)) fun r0 =>
  some (decide (r0.1 = (0 : Int)), r0.2) := by kernel_rfl
/- spec.l01PickInt -/
def c_sl01PickInt : TC :=
 (.seq (.rg [o1 4 (.lit [.i .i64] [.int .i64 (0)])])
 (.seq (.rg [o1 5 (.copy 1),
   o1 6 (.p0),
   o1 7 (.copy 1),
   o1 8 (.len 7),
   ⟨false, [], [], .call 2 178 [.t 0, .t 8] (.mp 0), [9, 0], (some 9), none⟩,
   o1 10 (.index 5 (.t 9)),
   o1 11 (.load 5 [(0, 1)] 0 (.t 10) 1 false),
   o1 4 (.copy 11)])
 .ret))
def s_sl01PickInt : Sig := ⟨[.mp [.sl (.ro []) [.d], .d, .d], .rd false [.sl (.own none) [.d]]], (.one false [.d])⟩
noncomputable def E_sl01PickInt : TEnv := envOf [(178, p_sl01Below)]
noncomputable def f_sl01PickInt (n : Nat) : (List (Int) × Int × Int) × List (Int) → Option ((Int) × List (Int) × Int × Int) := runFn n E_sl01PickInt c_sl01PickInt [[.sl [.i .u8], .i .i64, .i .i64], [.sl [.i .i64]]] [.i .i64] [.sl [.i .u8], .i .i64, .i .i64] [4] (.mp 0)
noncomputable def g_sl01PickInt := f_sl01PickInt BIG
noncomputable def p_sl01PickInt : TSp := ⟨s_sl01PickInt, [[.sl [.i .u8], .i .i64, .i .i64], [.sl [.i .i64]]], [.i .i64], [.sl [.i .u8], .i .i64, .i .i64], Ou.j (.mp 0), g_sl01PickInt⟩
theorem k_sl01PickInt : chkW PG E_sl01PickInt 261 s_sl01PickInt (c_sl01PickInt.ht 12) (.mp 0) = some (c_sl01PickInt.wc E_sl01PickInt, [4]) := by kernel_rfl
theorem ok_sl01PickInt : p_sl01PickInt.Ok PG 261 := mkOk (env_cons ok_sl01Below (env_nil PG)) k_sl01PickInt (by kernel_rfl)
theorem e_sl01PickInt (n : Nat) (a0 : List (Int) × Int × Int) (a1 : List (Int)) : f_sl01PickInt n (a0, a1) =
  Option.bind (g_sl01Below (a0, (a1.length : Int))) fun r0 =>
  bnd a1.length r0.1 fun n1 =>
  Option.bind a1[n1]? fun y2 =>
  some (y2, r0.2) := by kernel_rfl
/- spec.l01Place -/
def c_sl01Place : TC :=
 (.seq (.rg [o1 4 (.lit [.i .i64] [.int .i64 (0)])])
 (.seq (.seq (.rg [o1 5 (.p0),
   ⟨false, [], [], .call 2 227 [.t 0, .c [.i .i64] [.int .i64 (15)]] (.mp 0), [6, 0], (some 6), none⟩])
 (.cond (.t 6)
  (.seq (.rg [o1 7 (.p0),
    o1 8 (.copy 1),
    o1 9 (.copy 1),
    o1 10 (.data (.bin .add) [.t 9, .c (.int .i64 (1))]),
    ⟨false, [], [], .det 4 (.sli [.i .i64] [.c [.i .i64] [.int .i64 (-1)], .t 8, .t 10, .c [.i .i64] [.int .i64 (9223372036854775807)], .c [.i .i64] [.int .i64 (-9223372036854775808)]]), [11, 1000000001, 1000000004, 1000000005], (some 11), none⟩,
    ⟨false, [], [], .call 2 261 [.t 0, .t 11] (.mp 0), [12, 0], (some 12), none⟩,
    o1 4 (.copy 12)])
  .ret)
  .skip))
 (.seq (.rg [o1 13 (.p0),
   o1 14 (.copy 1),
   ⟨false, [], [], .call 2 178 [.t 0, .t 14] (.mp 0), [15, 0], (some 15), none⟩,
   o1 4 (.copy 15)])
 .ret)))
def s_sl01Place : Sig := ⟨[.mp [.sl (.ro []) [.d], .d, .d], .rd false [.d]], (.one false [.d])⟩
noncomputable def E_sl01Place : TEnv := envOf [(227, p_sl01Once), (261, p_sl01PickInt), (178, p_sl01Below)]
noncomputable def f_sl01Place (n : Nat) : (List (Int) × Int × Int) × Int → Option ((Int) × List (Int) × Int × Int) := runFn n E_sl01Place c_sl01Place [[.sl [.i .u8], .i .i64, .i .i64], [.i .i64]] [.i .i64] [.sl [.i .u8], .i .i64, .i .i64] [4] (.mp 0)
noncomputable def g_sl01Place := f_sl01Place BIG
noncomputable def p_sl01Place : TSp := ⟨s_sl01Place, [[.sl [.i .u8], .i .i64, .i .i64], [.i .i64]], [.i .i64], [.sl [.i .u8], .i .i64, .i .i64], Ou.j (.mp 0), g_sl01Place⟩
theorem k_sl01Place : chkW PG E_sl01Place 159 s_sl01Place (c_sl01Place.ht 16) (.mp 0) = some (c_sl01Place.wc E_sl01Place, [4]) := by kernel_rfl
theorem ok_sl01Place : p_sl01Place.Ok PG 159 := mkOk (env_cons ok_sl01Once (env_cons ok_sl01PickInt (env_cons ok_sl01Below (env_nil PG)))) k_sl01Place (by kernel_rfl)
theorem e_sl01Place (n : Nat) (a0 : List (Int) × Int × Int) (a1 : Int) : f_sl01Place n (a0, a1) =
  Option.bind (g_sl01Once (a0, (15 : Int))) fun r0 =>
  bif r0.1 then
   Option.bind (g_sl01PickInt (r0.2, [(-1 : Int), a1, IntKind.wrap .i64 (a1 + (1 : Int)), (9223372036854775807 : Int), (-9223372036854775808 : Int)])) fun r1 =>
   some (r1.1, r1.2)
  else Option.bind (g_sl01Below (r0.2, a1)) fun r2 =>
  some (r2.1, r2.2) := by kernel_rfl
/- spec.DrawShardNew -/
def c_sDrawShardNew : TC :=
 (.seq (.rg [o1 2 (.lit [.i .i64] [.int .i64 (0)]),
   o1 3 (.lit [.i .i64] [.int .i64 (0)])])
 (.seq (.rg [o1 5 (.copy 0),
   o3 6 158 [.t 5],
   o1 4 (.p0)])
 (.seq (.rg [o1 7 (.same 4),
   ⟨false, [], [], .call 2 159 [.t 6, .c [.i .i64] [.int .i64 (4)]] (.mp 0), [8, 6], (some 8), none⟩,
   o1 9 (.same 4),
   ⟨false, [], [], .call 2 159 [.t 6, .c [.i .i64] [.int .i64 (13)]] (.mp 0), [10, 6], (some 10), none⟩,
   o1 2 (.copy 8),
   o1 3 (.copy 10)])
 .ret)))
def s_sDrawShardNew : Sig := ⟨[.rd false [.sl (.own none) [.d]]], (.tup [(false, 1), (false, 1)] [.d, .d])⟩
noncomputable def E_sDrawShardNew : TEnv := envOf [(158, p_sl01New), (159, p_sl01Place)]
noncomputable def f_sDrawShardNew (n : Nat) : List (Int) → Option ((Int × Int) × Unit) := runFn n E_sDrawShardNew c_sDrawShardNew [[.sl [.i .u8]]] [.i .i64, .i .i64] [] [2, 3] .no
noncomputable def g_sDrawShardNew := f_sDrawShardNew BIG
noncomputable def p_sDrawShardNew : TSp := ⟨s_sDrawShardNew, [[.sl [.i .u8]]], [.i .i64, .i .i64], [], Ou.j .no, g_sDrawShardNew⟩
theorem k_sDrawShardNew : chkW PG E_sDrawShardNew 28 s_sDrawShardNew (c_sDrawShardNew.ht 11) .no = some (c_sDrawShardNew.wc E_sDrawShardNew, [2, 3]) := by kernel_rfl
theorem ok_sDrawShardNew : p_sDrawShardNew.Ok PG 28 := mkOk (env_cons ok_sl01New (env_cons ok_sl01Place (env_nil PG))) k_sDrawShardNew (by kernel_rfl)
theorem e_sDrawShardNew (n : Nat) (a0 : List (Int)) : f_sDrawShardNew n a0 =
  Option.bind (g_sl01New a0) fun r0 =>
  Option.bind (g_sl01Place (r0.1, (4 : Int))) fun r1 =>
  Option.bind (g_sl01Place (r1.2, (13 : Int))) fun r2 =>
  some ((r1.1, r2.1), ()) := by kernel_rfl
/- impl.in -/
def c_iin : TC :=
 (.seq (.rg [o1 6 (.lit [.b] [.bool false])])
 (.seq (.join [⟨6, [.b], false⟩] 32704 none (.rg [o1 7 (.copy 0),
   o1 8 (.copy 1),
   o1 9 (.data (.bin .geq) [.t 7, .t 8]),
   o1 10 (.copy 9),
   o2 11 (.copy 0) 3 true,
   o2 12 (.copy 2) 3 true,
   o2 13 (.data (.bin .leq) [.t 11, .t 12]) 3 true,
   ⟨false, [], [], .pick 10 (.t 13) (.c (.bool false)), [14], (some 14), none⟩,
   o1 6 (.copy 14)]))
 .ret))
def s_iin : Sig := ⟨[.rd false [.d], .rd false [.d], .rd false [.d]], (.one false [.d])⟩
noncomputable def E_iin : TEnv := envOf []
noncomputable def f_iin (n : Nat) : Int × Int × Int → Option ((Bool) × Unit) := runFn n E_iin c_iin [[.i .i64], [.i .i64], [.i .i64]] [.b] [] [6] .no
noncomputable def g_iin := f_iin BIG
noncomputable def p_iin : TSp := ⟨s_iin, [[.i .i64], [.i .i64], [.i .i64]], [.b], [], Ou.j .no, g_iin⟩
theorem k_iin : chkW PG E_iin 161 s_iin (c_iin.ht 15) .no = some (c_iin.wc E_iin, [6]) := by kernel_rfl
theorem ok_iin : p_iin.Ok PG 161 := mkOk (env_nil PG) k_iin (by kernel_rfl)
theorem e_iin (n : Nat) (a0 : Int) (a1 : Int) (a2 : Int) : f_iin n (a0, a1, a2) =
  Option.bind (bif decide (a1 ≤ a0) then
    some (decide (a0 ≤ a2))
   else some false : Option (Bool)) fun x0 =>
  some (x0, ()) := by kernel_rfl
/- impl.WebNew -/
def c_iWebNew : TC :=
 (.seq (.rg [⟨false, [], [], .det 2 (.a (.c [.i .i64, .sl [.i .i64, .i .i64, .i .i64, .b]] [.int .i64 (0), .slice none 0 0])), [2, 1000000001], (some 2), none⟩,
   o1 3 (.lit [.b] [.bool false])])
 (.seq (.seq (.rg [o1 4 (.copy 0),
   o3 5 161 [.t 4, .c [.i .i64] [.int .i64 (1)], .c [.i .i64] [.int .i64 (12)]],
   o1 6 (.data .not [.t 5])])
 (.cond (.t 6)
  (.seq (.rg [o1 7 (.build [.i .i64, .sl [.i .i64, .i .i64, .i .i64, .b]] []),
    o4 2 [2, 7] (.store 2 [] 0 .nil (.t 7)),
    o1 3 (.lit [.b] [.bool false])])
  .ret)
  .skip))
 (.seq (.rg [o1 8 (.copy 0),
   o1 9 (.build [.i .i64, .sl [.i .i64, .i .i64, .i .i64, .b]] [(0, .t 8)]),
   o4 2 [2, 9] (.store 2 [] 0 .nil (.t 9)),
   o1 3 (.lit [.b] [.bool true])])
 .ret)))
def s_iWebNew : Sig := ⟨[.rd false [.d]], (.tup [(true, 2), (false, 1)] [.d, .sl (.own none) [.d, .d, .d, .d], .d])⟩
noncomputable def E_iWebNew : TEnv := envOf [(161, p_iin)]
noncomputable def f_iWebNew (n : Nat) : Int → Option ((Int × List (Int × Int × Int × Bool) × Bool) × Unit) := runFn n E_iWebNew c_iWebNew [[.i .i64]] [.i .i64, .sl [.i .i64, .i .i64, .i .i64, .b], .b] [] [2, 3] .no
noncomputable def g_iWebNew := f_iWebNew BIG
noncomputable def p_iWebNew : TSp := ⟨s_iWebNew, [[.i .i64]], [.i .i64, .sl [.i .i64, .i .i64, .i .i64, .b], .b], [], Ou.j .no, g_iWebNew⟩
theorem k_iWebNew : chkW PG E_iWebNew 160 s_iWebNew (c_iWebNew.ht 10) .no = some (c_iWebNew.wc E_iWebNew, [2, 3]) := by kernel_rfl
theorem ok_iWebNew : p_iWebNew.Ok PG 160 := mkOk (env_cons ok_iin (env_nil PG)) k_iWebNew (by kernel_rfl)
theorem e_iWebNew (n : Nat) (a0 : Int) : f_iWebNew n a0 =
  Option.bind (g_iin (a0, (1 : Int), (12 : Int))) fun r0 =>
  bif !r0.1 then
   some (((0 : Int), [], false), ())
  else some ((a0, [], true), ()) := by kernel_rfl
/- impl.ShardNew -/
def c_iShardNew : TC :=
 (.seq (.rg [⟨false, [], [], .det 2 (.a (.c [.i .i64, .i .i64, .sl [.i .i64, .i .i64, .i .i64, .b], .i .i64, .b, .sl [.i .i64, .i .i64], .sl [.i .i64]] [.int .i64 (0), .int .i64 (0), .slice none 0 0, .int .i64 (0), .bool false, .slice none 0 0, .slice none 0 0])), [4, 1000000001], (some 4), none⟩,
   o1 5 (.lit [.b] [.bool false])])
 (.seq (.rg [o1 9 (.copy 1),
   o3 10 160 [.t 9],
   ⟨false, [], [], .det 2 (.copy 10), [8, 10], (some 8), none⟩,
   ⟨false, [], [], .det 2 (.ext 8 0 2), [11, 8], (some 11), none⟩,
   o1 12 (.ext 8 2 1),
   ⟨false, [], [], .det 2 (.a (.c [.i .i64, .sl [.i .i64, .i .i64, .i .i64, .b]] [.int .i64 (0), .slice none 0 0])), [6, 1000000001], (some 6), none⟩,
   o4 2 [6, 11] (.store 6 [] 0 .nil (.t 11)),
   o1 7 (.copy 12)])
 (.seq (.seq (.join [⟨19, [.b], false⟩] 1040384 none (.rg [o1 13 (.copy 0),
   o3 14 161 [.t 13, .c [.i .i64] [.int .i64 (1)], .c [.i .i64] [.int .i64 (3)]],
   o1 15 (.data .not [.t 14]),
   o1 16 (.copy 15),
   o2 17 (.copy 7) 3 false,
   o2 18 (.data .not [.t 17]) 3 false,
   ⟨false, [], [], .pick 16 (.c (.bool true)) (.t 18), [19], (some 19), none⟩]))
 (.cond (.t 19)
  (.seq (.rg [o1 20 (.build [.i .i64, .i .i64, .sl [.i .i64, .i .i64, .i .i64, .b], .i .i64, .b, .sl [.i .i64, .i .i64], .sl [.i .i64]] []),
    o4 2 [4, 20] (.store 4 [] 0 .nil (.t 20)),
    o1 5 (.lit [.b] [.bool false])])
  .ret)
  .skip))
 (.seq (.rg [o1 21 (.copy 0),
   o1 22 (.load 6 [] 0 .nil 2 true),
   ⟨false, [22], [], .det 2 (.build [.i .i64, .i .i64, .sl [.i .i64, .i .i64, .i .i64, .b], .i .i64, .b, .sl [.i .i64, .i .i64], .sl [.i .i64]] [(0, .t 21), (1, .t 22)]), [23, 22, 22, 6], (some 23), none⟩,
   o4 2 [4, 23] (.store 4 [] 0 .nil (.t 23)),
   o1 5 (.lit [.b] [.bool true])])
 .ret))))
def s_iShardNew : Sig := ⟨[.rd false [.d], .rd false [.d]], (.tup [(true, 7), (false, 1)] [.d, .d, .sl (.own none) [.d, .d, .d, .d], .d, .d, .sl (.own none) [.d, .d], .sl (.own none) [.d], .d])⟩
noncomputable def E_iShardNew : TEnv := envOf [(160, p_iWebNew), (161, p_iin)]
noncomputable def f_iShardNew (n : Nat) : Int × Int → Option ((Int × Int × List (Int × Int × Int × Bool) × Int × Bool × List (Int × Int) × List (Int) × Bool) × Unit) := runFn n E_iShardNew c_iShardNew [[.i .i64], [.i .i64]] [.i .i64, .i .i64, .sl [.i .i64, .i .i64, .i .i64, .b], .i .i64, .b, .sl [.i .i64, .i .i64], .sl [.i .i64], .b] [] [4, 5] .no
noncomputable def g_iShardNew := f_iShardNew BIG
noncomputable def p_iShardNew : TSp := ⟨s_iShardNew, [[.i .i64], [.i .i64]], [.i .i64, .i .i64, .sl [.i .i64, .i .i64, .i .i64, .b], .i .i64, .b, .sl [.i .i64, .i .i64], .sl [.i .i64], .b], [], Ou.j .no, g_iShardNew⟩
theorem k_iShardNew : chkW PG E_iShardNew 29 s_iShardNew (c_iShardNew.ht 24) .no = some (c_iShardNew.wc E_iShardNew, [4, 5]) := by kernel_rfl
theorem ok_iShardNew : p_iShardNew.Ok PG 29 := mkOk (env_cons ok_iWebNew (env_cons ok_iin (env_nil PG))) k_iShardNew (by kernel_rfl)
theorem e_iShardNew (n : Nat) (a0 : Int) (a1 : Int) : f_iShardNew n (a0, a1) =
  Option.bind (g_iWebNew a1) fun r0 =>
  Option.bind (Option.bind (g_iin (a0, (1 : Int), (3 : Int))) fun r1 =>
   bif !r1.1 then
    some true
   else some !r0.1.2.2 : Option (Bool)) fun x2 =>
  bif x2 then
   some (((0 : Int), (0 : Int), [], (0 : Int), false, [], [], false), ())
  else some ((a0, r0.1.1, r0.1.2.1, (0 : Int), false, [], [], true), ()) := by kernel_rfl
/- spec.l01In -/
def c_sl01In : TC :=
 (.seq (.rg [o1 6 (.lit [.b] [.bool false])])
 (.seq (.join [⟨6, [.b], false⟩] 32704 none (.rg [o1 7 (.copy 0),
   o1 8 (.copy 1),
   o1 9 (.data (.bin .geq) [.t 7, .t 8]),
   o1 10 (.copy 9),
   o2 11 (.copy 0) 3 true,
   o2 12 (.copy 2) 3 true,
   o2 13 (.data (.bin .leq) [.t 11, .t 12]) 3 true,
   ⟨false, [], [], .pick 10 (.t 13) (.c (.bool false)), [14], (some 14), none⟩,
   o1 6 (.copy 14)]))
 .ret))
def s_sl01In : Sig := ⟨[.rd false [.d], .rd false [.d], .rd false [.d]], (.one false [.d])⟩
noncomputable def E_sl01In : TEnv := envOf []
noncomputable def f_sl01In (n : Nat) : Int × Int × Int → Option ((Bool) × Unit) := runFn n E_sl01In c_sl01In [[.i .i64], [.i .i64], [.i .i64]] [.b] [] [6] .no
noncomputable def g_sl01In := f_sl01In BIG
noncomputable def p_sl01In : TSp := ⟨s_sl01In, [[.i .i64], [.i .i64], [.i .i64]], [.b], [], Ou.j .no, g_sl01In⟩
theorem k_sl01In : chkW PG E_sl01In 163 s_sl01In (c_sl01In.ht 15) .no = some (c_sl01In.wc E_sl01In, [6]) := by kernel_rfl
theorem ok_sl01In : p_sl01In.Ok PG 163 := mkOk (env_nil PG) k_sl01In (by kernel_rfl)
theorem e_sl01In (n : Nat) (a0 : Int) (a1 : Int) (a2 : Int) : f_sl01In n (a0, a1, a2) =
  Option.bind (bif decide (a1 ≤ a0) then
    some (decide (a0 ≤ a2))
   else some false : Option (Bool)) fun x0 =>
  some (x0, ()) := by kernel_rfl
/- spec.WebNew -/
def c_sWebNew : TC :=
 (.seq (.rg [⟨false, [], [], .det 2 (.a (.c [.i .i64, .sl [.i .i64, .i .i64, .i .i64, .b]] [.int .i64 (0), .slice none 0 0])), [2, 1000000001], (some 2), none⟩,
   o1 3 (.lit [.b] [.bool false])])
 (.seq (.seq (.rg [o1 4 (.copy 0),
   o3 5 163 [.t 4, .c [.i .i64] [.int .i64 (1)], .c [.i .i64] [.int .i64 (12)]],
   o1 6 (.data .not [.t 5])])
 (.cond (.t 6)
  (.seq (.rg [o1 7 (.build [.i .i64, .sl [.i .i64, .i .i64, .i .i64, .b]] []),
    o4 2 [2, 7] (.store 2 [] 0 .nil (.t 7)),
    o1 3 (.lit [.b] [.bool false])])
  .ret)
  .skip))
 (.seq (.rg [o1 8 (.copy 0),
   o1 9 (.build [.i .i64, .sl [.i .i64, .i .i64, .i .i64, .b]] [(0, .t 8)]),
   o4 2 [2, 9] (.store 2 [] 0 .nil (.t 9)),
   o1 3 (.lit [.b] [.bool true])])
 .ret)))
def s_sWebNew : Sig := ⟨[.rd false [.d]], (.tup [(true, 2), (false, 1)] [.d, .sl (.own none) [.d, .d, .d, .d], .d])⟩
noncomputable def E_sWebNew : TEnv := envOf [(163, p_sl01In)]
noncomputable def f_sWebNew (n : Nat) : Int → Option ((Int × List (Int × Int × Int × Bool) × Bool) × Unit) := runFn n E_sWebNew c_sWebNew [[.i .i64]] [.i .i64, .sl [.i .i64, .i .i64, .i .i64, .b], .b] [] [2, 3] .no
noncomputable def g_sWebNew := f_sWebNew BIG
noncomputable def p_sWebNew : TSp := ⟨s_sWebNew, [[.i .i64]], [.i .i64, .sl [.i .i64, .i .i64, .i .i64, .b], .b], [], Ou.j .no, g_sWebNew⟩
theorem k_sWebNew : chkW PG E_sWebNew 162 s_sWebNew (c_sWebNew.ht 10) .no = some (c_sWebNew.wc E_sWebNew, [2, 3]) := by kernel_rfl
theorem ok_sWebNew : p_sWebNew.Ok PG 162 := mkOk (env_cons ok_sl01In (env_nil PG)) k_sWebNew (by kernel_rfl)
theorem e_sWebNew (n : Nat) (a0 : Int) : f_sWebNew n a0 =
  Option.bind (g_sl01In (a0, (1 : Int), (12 : Int))) fun r0 =>
  bif !r0.1 then
   some (((0 : Int), [], false), ())
  else some ((a0, [], true), ()) := by kernel_rfl
/- spec.ShardNew -/
def c_sShardNew : TC :=
 (.seq (.rg [⟨false, [], [], .det 2 (.a (.c [.i .i64, .i .i64, .sl [.i .i64, .i .i64, .i .i64, .b], .i .i64, .b, .sl [.i .i64, .i .i64], .sl [.i .i64]] [.int .i64 (0), .int .i64 (0), .slice none 0 0, .int .i64 (0), .bool false, .slice none 0 0, .slice none 0 0])), [4, 1000000001], (some 4), none⟩,
   o1 5 (.lit [.b] [.bool false])])
 (.seq (.rg [o1 9 (.copy 1),
   o3 10 162 [.t 9],
   ⟨false, [], [], .det 2 (.copy 10), [8, 10], (some 8), none⟩,
   ⟨false, [], [], .det 2 (.ext 8 0 2), [11, 8], (some 11), none⟩,
   o1 12 (.ext 8 2 1),
   ⟨false, [], [], .det 2 (.a (.c [.i .i64, .sl [.i .i64, .i .i64, .i .i64, .b]] [.int .i64 (0), .slice none 0 0])), [6, 1000000001], (some 6), none⟩,
   o4 2 [6, 11] (.store 6 [] 0 .nil (.t 11)),
   o1 7 (.copy 12)])
 (.seq (.seq (.join [⟨19, [.b], false⟩] 1040384 none (.rg [o1 13 (.copy 7),
   o1 14 (.data .not [.t 13]),
   o1 15 (.copy 14),
   o2 16 (.copy 0) 2 false,
   ⟨false, [], [], .call 1 163 [.t 16, .c [.i .i64] [.int .i64 (1)], .c [.i .i64] [.int .i64 (3)]] .no, [17], (some 17), some (2, false)⟩,
   o2 18 (.data .not [.t 17]) 2 false,
   ⟨false, [], [], .pick 15 (.c (.bool true)) (.t 18), [19], (some 19), none⟩]))
 (.cond (.t 19)
  (.seq (.rg [o1 20 (.build [.i .i64, .i .i64, .sl [.i .i64, .i .i64, .i .i64, .b], .i .i64, .b, .sl [.i .i64, .i .i64], .sl [.i .i64]] []),
    o4 2 [4, 20] (.store 4 [] 0 .nil (.t 20)),
    o1 5 (.lit [.b] [.bool false])])
  .ret)
  .skip))
 (.seq (.rg [o1 21 (.copy 0),
   o1 22 (.load 6 [] 0 .nil 2 true),
   ⟨false, [22], [], .det 2 (.build [.i .i64, .i .i64, .sl [.i .i64, .i .i64, .i .i64, .b], .i .i64, .b, .sl [.i .i64, .i .i64], .sl [.i .i64]] [(0, .t 21), (1, .t 22)]), [23, 22, 22, 6], (some 23), none⟩,
   o4 2 [4, 23] (.store 4 [] 0 .nil (.t 23)),
   o1 5 (.lit [.b] [.bool true])])
 .ret))))
def s_sShardNew : Sig := ⟨[.rd false [.d], .rd false [.d]], (.tup [(true, 7), (false, 1)] [.d, .d, .sl (.own none) [.d, .d, .d, .d], .d, .d, .sl (.own none) [.d, .d], .sl (.own none) [.d], .d])⟩
noncomputable def E_sShardNew : TEnv := envOf [(162, p_sWebNew), (163, p_sl01In)]
noncomputable def f_sShardNew (n : Nat) : Int × Int → Option ((Int × Int × List (Int × Int × Int × Bool) × Int × Bool × List (Int × Int) × List (Int) × Bool) × Unit) := runFn n E_sShardNew c_sShardNew [[.i .i64], [.i .i64]] [.i .i64, .i .i64, .sl [.i .i64, .i .i64, .i .i64, .b], .i .i64, .b, .sl [.i .i64, .i .i64], .sl [.i .i64], .b] [] [4, 5] .no
noncomputable def g_sShardNew := f_sShardNew BIG
noncomputable def p_sShardNew : TSp := ⟨s_sShardNew, [[.i .i64], [.i .i64]], [.i .i64, .i .i64, .sl [.i .i64, .i .i64, .i .i64, .b], .i .i64, .b, .sl [.i .i64, .i .i64], .sl [.i .i64], .b], [], Ou.j .no, g_sShardNew⟩
theorem k_sShardNew : chkW PG E_sShardNew 30 s_sShardNew (c_sShardNew.ht 24) .no = some (c_sShardNew.wc E_sShardNew, [4, 5]) := by kernel_rfl
theorem ok_sShardNew : p_sShardNew.Ok PG 30 := mkOk (env_cons ok_sWebNew (env_cons ok_sl01In (env_nil PG))) k_sShardNew (by kernel_rfl)
theorem e_sShardNew (n : Nat) (a0 : Int) (a1 : Int) : f_sShardNew n (a0, a1) =
  Option.bind (g_sWebNew a1) fun r0 =>
  Option.bind (bif !r0.1.2.2 then
    some true
   else Option.bind (g_sl01In (a0, (1 : Int), (3 : Int))) fun r1 =>
   some !r1.1 : Option (Bool)) fun x2 =>
  bif x2 then
   some (((0 : Int), (0 : Int), [], (0 : Int), false, [], [], false), ())
  else some ((a0, r0.1.1, r0.1.2.1, (0 : Int), false, [], [], true), ()) := by kernel_rfl
/- impl.GraphOf -/
def c_iGraphOf : TC :=
 (.seq (.rg [o1 1 (.a (.t 0)),
   ⟨false, [], [], .det 2 (.a (.c [.i .i64, .sl [.i .i64, .i .i64]] [.int .i64 (0), .slice none 0 0])), [2, 1000000001], (some 2), none⟩])
 (.seq (.rg [o1 6 (.idx .nil),
   o1 7 (.load 1 [] 0 (.t 6) 1 false),
   o1 8 (.build [.i .i64, .sl [.i .i64, .i .i64]] [(0, .t 7)]),
   ⟨false, [], [], .det 2 (.a (.c [.i .i64, .sl [.i .i64, .i .i64]] [.int .i64 (0), .slice none 0 0])), [3, 1000000001], (some 3), none⟩,
   o4 2 [3, 8] (.store 3 [] 0 .nil (.t 8))])
 (.seq (.join [⟨3, [.i .i64, .sl [.i .i64, .i .i64]], false⟩] 134217256 none (.seq (.rg [o1 9 (.idx .nil),
   o1 10 (.load 1 [] 1 (.t 9) 1 false),
   o1 11 (.len 10),
   o1 12 (.lit [.i .i64] [.int .i64 (0)])])
 (.block 0 (.loop [⟨3, [.i .i64, .sl [.i .i64, .i .i64]], false⟩, ⟨12, [.i .i64], false⟩] 134213672
  (.seq (.rg [o1 13 (.data (.bin .lss) [.t 12, .t 11])])
  (.seq (.cond (.t 13)
   .skip
   (.exit 0))
  (.seq (.block 1 (.seq (.rg [o1 14 (.index 10 (.t 12)),
    o1 15 (.load 10 [(0, 4)] 0 (.t 14) 4 false),
    ⟨false, [], [], .det 2 (.a (.c [.i .i64, .i .i64, .i .i64, .b] [.int .i64 (0), .int .i64 (0), .int .i64 (0), .bool false])), [5, 1000000001], (some 5), none⟩,
    o4 1 [5] (.store 5 [] 0 .nil (.t 15))])
  (.rg [o1 16 (.idx .nil),
    o1 17 (.load 3 [] 1 (.t 16) 1 true),
    o1 18 (.idx .nil),
    o1 19 (.load 5 [] 0 (.t 18) 1 false),
    o1 20 (.idx .nil),
    o1 21 (.load 5 [] 1 (.t 20) 1 false),
    o1 22 (.build [.i .i64, .i .i64] [(0, .t 19), (1, .t 21)]),
    o1 23 (.sli [.i .i64, .i .i64] [.t 22]),
    ⟨false, [17], [], .det 2 (.app (some 17) 23), [24, 17, 17, 3], (some 24), none⟩,
    o1 25 (.idx .nil),
    o4 2 [3, 24, 17] (.store 3 [] 1 (.t 25) (.t 24))])))
  (.rg [o1 26 (.data (.bin .add) [.t 12, .c (.int .i64 (1))]),
    o1 12 (.copy 26)]))))))))
 (.seq (.rg [o1 27 (.load 3 [] 0 .nil 2 true),
   ⟨false, [27], [], .det 2 (.store 2 [] 0 .nil (.t 27)), [2, 27, 27, 3], none, none⟩])
 .ret))))
def s_iGraphOf : Sig := ⟨[.rd true [.d, .sl (.own none) [.d, .d, .d, .d]]], (.one true [.d, .sl (.own none) [.d, .d]])⟩
noncomputable def E_iGraphOf : TEnv := envOf []
noncomputable def f_iGraphOf (n : Nat) : (Int × List (Int × Int × Int × Bool)) → Option ((Int × List (Int × Int)) × Unit) := runFn n E_iGraphOf c_iGraphOf [[.i .i64, .sl [.i .i64, .i .i64, .i .i64, .b]]] [.i .i64, .sl [.i .i64, .i .i64]] [] [2] .no
noncomputable def g_iGraphOf := f_iGraphOf BIG
noncomputable def p_iGraphOf : TSp := ⟨s_iGraphOf, [[.i .i64, .sl [.i .i64, .i .i64, .i .i64, .b]]], [.i .i64, .sl [.i .i64, .i .i64]], [], Ou.j .no, g_iGraphOf⟩
theorem k_iGraphOf : chkW PG E_iGraphOf 131 s_iGraphOf (c_iGraphOf.ht 28) .no = some (c_iGraphOf.wc E_iGraphOf, [2]) := by kernel_rfl
theorem ok_iGraphOf : p_iGraphOf.Ok PG 131 := mkOk (env_nil PG) k_iGraphOf (by kernel_rfl)
theorem e_iGraphOf (n : Nat) (a0 : Int × List (Int × Int × Int × Bool)) : f_iGraphOf n a0 =
  Option.bind (loopT n (X := (Int × List (Int × Int)) × Int) (B := (Int × List (Int × Int))) (fun self1 x0 =>
    bif decide (x0.2 < (a0.2.length : Int)) then
     bnd a0.2.length x0.2 fun n2 =>
     Option.bind a0.2[n2]? fun y3 =>
     bif decide (x0.1.2.length + ([(y3.1, y3.2.1)]).length ≤ 4294967296) then
      self1 ((x0.1.1, x0.1.2 ++ ([(y3.1, y3.2.1)])), IntKind.wrap .i64 (x0.2 + (1 : Int)))
     else none
    else some x0.1) ((a0.1, []), (0 : Int)) : Option ((Int × List (Int × Int)))) fun x4 =>
  some (x4, ()) := by kernel_rfl
/- impl.EdgeOk -/
def c_iEdgeOk : TC :=
 (.seq (.rg [o1 3 (.a (.t 1)),
   o1 4 (.lit [.b] [.bool false])])
 (.seq (.join [⟨4, [.b], false⟩] 268435440 none (.rg [o1 5 (.copy 0),
   o3 6 161 [.t 5, .c [.i .i64] [.int .i64 (1)], .c [.i .i64] [.int .i64 (12)]],
   o1 7 (.copy 6),
   o2 8 (.idx .nil) 2 true,
   o2 9 (.load 3 [] 0 (.t 8) 1 false) 2 true,
   o2 10 (.copy 0) 2 true,
   o2 11 (.data (.bin .sub) [.t 10, .c (.int .i64 (1))]) 2 true,
   ⟨false, [], [], .call 1 161 [.t 9, .c [.i .i64] [.int .i64 (0)], .t 11] .no, [12], (some 12), some (2, true)⟩,
   ⟨false, [], [], .pick 7 (.t 12) (.c (.bool false)), [13], (some 13), none⟩,
   o1 14 (.copy 13),
   o2 15 (.idx .nil) 9 true,
   o2 16 (.load 3 [] 1 (.t 15) 1 false) 9 true,
   o2 17 (.copy 0) 9 true,
   o2 18 (.data (.bin .sub) [.t 17, .c (.int .i64 (1))]) 9 true,
   ⟨false, [], [], .call 1 161 [.t 16, .c [.i .i64] [.int .i64 (0)], .t 18] .no, [19], (some 19), some (9, true)⟩,
   ⟨false, [], [], .pick 14 (.t 19) (.c (.bool false)), [20], (some 20), none⟩,
   o1 21 (.copy 20),
   o2 22 (.idx .nil) 16 true,
   o2 23 (.load 3 [] 0 (.t 22) 1 false) 16 true,
   o2 24 (.idx .nil) 16 true,
   o2 25 (.load 3 [] 1 (.t 24) 1 false) 16 true,
   o2 26 (.data (.bin .lss) [.t 23, .t 25]) 16 true,
   ⟨false, [], [], .pick 21 (.t 26) (.c (.bool false)), [27], (some 27), none⟩,
   o1 4 (.copy 27)]))
 .ret))
def s_iEdgeOk : Sig := ⟨[.rd false [.d], .rd true [.d, .d]], (.one false [.d])⟩
noncomputable def E_iEdgeOk : TEnv := envOf [(161, p_iin)]
noncomputable def f_iEdgeOk (n : Nat) : Int × (Int × Int) → Option ((Bool) × Unit) := runFn n E_iEdgeOk c_iEdgeOk [[.i .i64], [.i .i64, .i .i64]] [.b] [] [4] .no
noncomputable def g_iEdgeOk := f_iEdgeOk BIG
noncomputable def p_iEdgeOk : TSp := ⟨s_iEdgeOk, [[.i .i64], [.i .i64, .i .i64]], [.b], [], Ou.j .no, g_iEdgeOk⟩
theorem k_iEdgeOk : chkW PG E_iEdgeOk 173 s_iEdgeOk (c_iEdgeOk.ht 28) .no = some (c_iEdgeOk.wc E_iEdgeOk, [4]) := by kernel_rfl
theorem ok_iEdgeOk : p_iEdgeOk.Ok PG 173 := mkOk (env_cons ok_iin (env_nil PG)) k_iEdgeOk (by kernel_rfl)
theorem e_iEdgeOk (n : Nat) (a0 : Int) (a1 : Int × Int) : f_iEdgeOk n (a0, a1) =
  Option.bind (Option.bind (g_iin (a0, (1 : Int), (12 : Int))) fun r0 =>
   bif r0.1 then
    Option.bind (g_iin (a1.1, (0 : Int), IntKind.wrap .i64 (a0 - (1 : Int)))) fun r1 =>
    bif r1.1 then
     Option.bind (g_iin (a1.2, (0 : Int), IntKind.wrap .i64 (a0 - (1 : Int)))) fun r2 =>
     bif r2.1 then
      some (decide (a1.1 < a1.2))
     else some false
    else some false
   else some false : Option (Bool)) fun x3 =>
  some (x3, ()) := by kernel_rfl
/- impl.ahead -/
def c_iahead : TC :=
 (.seq (.rg [o1 2 (.a (.t 0)),
   o1 3 (.a (.t 1)),
   o1 4 (.lit [.b] [.bool false])])
 (.seq (.join [⟨4, [.b], false⟩] 16777200 none (.rg [o1 5 (.idx .nil),
   o1 6 (.load 2 [] 0 (.t 5) 1 false),
   o1 7 (.idx .nil),
   o1 8 (.load 3 [] 0 (.t 7) 1 false),
   o1 9 (.data (.bin .lss) [.t 6, .t 8]),
   o1 10 (.copy 9),
   o2 11 (.idx .nil) 5 false,
   o2 12 (.load 2 [] 0 (.t 11) 1 false) 5 false,
   o2 13 (.idx .nil) 5 false,
   o2 14 (.load 3 [] 0 (.t 13) 1 false) 5 false,
   o2 15 (.data (.bin .eql) [.t 12, .t 14]) 5 false,
   o2 16 (.copy 15) 5 false,
   o2 17 (.idx .nil) 11 true,
   o2 18 (.load 2 [] 1 (.t 17) 1 false) 11 true,
   o2 19 (.idx .nil) 11 true,
   o2 20 (.load 3 [] 1 (.t 19) 1 false) 11 true,
   o2 21 (.data (.bin .lss) [.t 18, .t 20]) 11 true,
   ⟨false, [], [], .pick 16 (.t 21) (.c (.bool false)), [22], (some 22), some (5, false)⟩,
   ⟨false, [], [], .pick 10 (.c (.bool true)) (.t 22), [23], (some 23), none⟩,
   o1 4 (.copy 23)]))
 .ret))
def s_iahead : Sig := ⟨[.rd true [.d, .d], .rd true [.d, .d]], (.one false [.d])⟩
noncomputable def E_iahead : TEnv := envOf []
noncomputable def f_iahead (n : Nat) : (Int × Int) × (Int × Int) → Option ((Bool) × Unit) := runFn n E_iahead c_iahead [[.i .i64, .i .i64], [.i .i64, .i .i64]] [.b] [] [4] .no
noncomputable def g_iahead := f_iahead BIG
noncomputable def p_iahead : TSp := ⟨s_iahead, [[.i .i64, .i .i64], [.i .i64, .i .i64]], [.b], [], Ou.j .no, g_iahead⟩
theorem k_iahead : chkW PG E_iahead 272 s_iahead (c_iahead.ht 24) .no = some (c_iahead.wc E_iahead, [4]) := by kernel_rfl
theorem ok_iahead : p_iahead.Ok PG 272 := mkOk (env_nil PG) k_iahead (by kernel_rfl)
theorem e_iahead (n : Nat) (a0 : Int × Int) (a1 : Int × Int) : f_iahead n (a0, a1) =
  Option.bind (bif decide (a0.1 < a1.1) then
    some true
   else bif decide (a0.1 = a1.1) then
    some (decide (a0.2 < a1.2))
   else some false : Option (Bool)) fun x0 =>
  some (x0, ()) := by kernel_rfl
/- impl.edgesOk -/
def c_iedgesOk : TC :=
 (.seq (.rg [o1 4 (.lit [.b] [.bool false])])
 (.seq (.join [] 8589934576 (some [⟨4, [.b], false⟩]) (.seq (.rg [o1 7 (.copy 1),
   o1 8 (.len 7),
   o1 9 (.lit [.i .i64] [.int .i64 (0)])])
 (.block 0 (.loop [⟨9, [.i .i64], false⟩] 8589934192
  (.seq (.rg [o1 10 (.data (.bin .lss) [.t 9, .t 8])])
  (.seq (.cond (.t 10)
   .skip
   (.exit 0))
  (.seq (.join [] 4294965360 (some [⟨4, [.b], false⟩]) (.block 1 (.seq (.rg [o1 11 (.copy 9),
    o1 12 (.index 7 (.t 9)),
    o1 13 (.load 7 [(0, 2)] 0 (.t 12) 2 false),
    ⟨false, [], [], .det 2 (.a (.c [.i .i64, .i .i64] [.int .i64 (0), .int .i64 (0)])), [6, 1000000001], (some 6), none⟩,
    o1 5 (.copy 11),
    o4 1 [6] (.store 6 [] 0 .nil (.t 13))])
  (.seq (.join [⟨31, [.b], false⟩] 4294950912 none (.rg [o1 14 (.copy 0),
    o1 15 (.load 6 [] 0 .nil 2 false),
    o3 16 173 [.t 14, .t 15],
    o1 17 (.data .not [.t 16]),
    o1 18 (.copy 17),
    o2 19 (.copy 5) 4 false,
    o2 20 (.data (.bin .gtr) [.t 19, .c (.int .i64 (0))]) 4 false,
    o2 21 (.copy 20) 4 false,
    o2 22 (.copy 1) 7 true,
    o2 23 (.copy 5) 7 true,
    o2 24 (.data (.bin .sub) [.t 23, .c (.int .i64 (1))]) 7 true,
    o2 25 (.index 22 (.t 24)) 7 true,
    o2 26 (.load 22 [(0, 2)] 0 (.t 25) 2 false) 7 true,
    o2 27 (.load 6 [] 0 .nil 2 false) 7 true,
    ⟨false, [], [], .call 1 272 [.t 26, .t 27] .no, [28], (some 28), some (7, true)⟩,
    o2 29 (.data .not [.t 28]) 7 true,
    ⟨false, [], [], .pick 21 (.t 29) (.c (.bool false)), [30], (some 30), some (4, false)⟩,
    ⟨false, [], [], .pick 18 (.c (.bool true)) (.t 30), [31], (some 31), none⟩]))
  (.cond (.t 31)
   (.seq (.rg [o1 4 (.lit [.b] [.bool false])])
   .ret)
   .skip)))))
  (.rg [o1 32 (.data (.bin .add) [.t 9, .c (.int .i64 (1))]),
    o1 9 (.copy 32)]))))))))
 (.seq (.rg [o1 33 (.copy 1),
   o1 34 (.len 33),
   o1 35 (.data (.bin .leq) [.t 34, .c (.int .i64 (66))]),
   o1 4 (.copy 35)])
 .ret)))
def s_iedgesOk : Sig := ⟨[.rd false [.d], .rd false [.sl (.own none) [.d, .d]]], (.one false [.d])⟩
noncomputable def E_iedgesOk : TEnv := envOf [(173, p_iEdgeOk), (272, p_iahead)]
noncomputable def f_iedgesOk (n : Nat) : Int × (List (Int × Int)) → Option ((Bool) × Unit) := runFn n E_iedgesOk c_iedgesOk [[.i .i64], [.sl [.i .i64, .i .i64]]] [.b] [] [4] .no
noncomputable def g_iedgesOk := f_iedgesOk BIG
noncomputable def p_iedgesOk : TSp := ⟨s_iedgesOk, [[.i .i64], [.sl [.i .i64, .i .i64]]], [.b], [], Ou.j .no, g_iedgesOk⟩
theorem k_iedgesOk : chkW PG E_iedgesOk 255 s_iedgesOk (c_iedgesOk.ht 36) .no = some (c_iedgesOk.wc E_iedgesOk, [4]) := by kernel_rfl
theorem ok_iedgesOk : p_iedgesOk.Ok PG 255 := mkOk (env_cons ok_iEdgeOk (env_cons ok_iahead (env_nil PG))) k_iedgesOk (by kernel_rfl)
theorem e_iedgesOk (n : Nat) (a0 : Int) (a1 : List (Int × Int)) : f_iedgesOk n (a0, a1) =
  Option.bind (loopT n (X := Int) (B := (Unit) ⊕ (Bool)) (fun self1 x0 =>
    bif decide (x0 < (a1.length : Int)) then
     Option.bind (bnd a1.length x0 fun n2 =>
      Option.bind a1[n2]? fun y3 =>
      Option.bind (Option.bind (g_iEdgeOk (a0, y3)) fun r4 =>
       bif !r4.1 then
        some true
       else bif decide ((0 : Int) < x0) then
        bnd a1.length (IntKind.wrap .i64 (x0 - (1 : Int))) fun n5 =>
        Option.bind a1[n5]? fun y6 =>
        Option.bind (g_iahead (y6, y3)) fun r7 =>
        some !r7.1
       else some false : Option (Bool)) fun x8 =>
      bif x8 then
       some (Sum.inr false)
      else some (Sum.inl ()) : Option ((Unit) ⊕ (Bool))) fun y => match y with
     | .inl x9 =>
      self1 (IntKind.wrap .i64 (x0 + (1 : Int)))
     | .inr x9 =>
      some (Sum.inr x9)
    else some (Sum.inl ())) (0 : Int) : Option ((Unit) ⊕ (Bool))) fun y => match y with
  | .inl x10 =>
   some (decide ((a1.length : Int) ≤ (66 : Int)), ())
  | .inr x10 =>
   some (x10, ()) := by kernel_rfl
/- impl.GraphOk -/
def c_iGraphOk : TC :=
 (.seq (.rg [o1 1 (.a (.t 0)),
   o1 2 (.lit [.b] [.bool false])])
 (.seq (.join [⟨2, [.b], false⟩] 8188 none (.rg [o1 3 (.idx .nil),
   o1 4 (.load 1 [] 0 (.t 3) 1 false),
   o3 5 161 [.t 4, .c [.i .i64] [.int .i64 (1)], .c [.i .i64] [.int .i64 (12)]],
   o1 6 (.copy 5),
   o2 7 (.idx .nil) 3 true,
   o2 8 (.load 1 [] 0 (.t 7) 1 false) 3 true,
   o2 9 (.idx .nil) 3 true,
   o2 10 (.load 1 [] 1 (.t 9) 1 false) 3 true,
   ⟨false, [], [], .call 1 255 [.t 8, .t 10] .no, [11], (some 11), some (3, true)⟩,
   ⟨false, [], [], .pick 6 (.t 11) (.c (.bool false)), [12], (some 12), none⟩,
   o1 2 (.copy 12)]))
 .ret))
def s_iGraphOk : Sig := ⟨[.rd true [.d, .sl (.own none) [.d, .d]]], (.one false [.d])⟩
noncomputable def E_iGraphOk : TEnv := envOf [(161, p_iin), (255, p_iedgesOk)]
noncomputable def f_iGraphOk (n : Nat) : (Int × List (Int × Int)) → Option ((Bool) × Unit) := runFn n E_iGraphOk c_iGraphOk [[.i .i64, .sl [.i .i64, .i .i64]]] [.b] [] [2] .no
noncomputable def g_iGraphOk := f_iGraphOk BIG
noncomputable def p_iGraphOk : TSp := ⟨s_iGraphOk, [[.i .i64, .sl [.i .i64, .i .i64]]], [.b], [], Ou.j .no, g_iGraphOk⟩
theorem k_iGraphOk : chkW PG E_iGraphOk 275 s_iGraphOk (c_iGraphOk.ht 13) .no = some (c_iGraphOk.wc E_iGraphOk, [2]) := by kernel_rfl
theorem ok_iGraphOk : p_iGraphOk.Ok PG 275 := mkOk (env_cons ok_iin (env_cons ok_iedgesOk (env_nil PG))) k_iGraphOk (by kernel_rfl)
theorem e_iGraphOk (n : Nat) (a0 : Int × List (Int × Int)) : f_iGraphOk n a0 =
  Option.bind (Option.bind (g_iin (a0.1, (1 : Int), (12 : Int))) fun r0 =>
   bif r0.1 then
    Option.bind (g_iedgesOk (a0.1, a0.2)) fun r1 =>
    some r1.1
   else some false : Option (Bool)) fun x2 =>
  some (x2, ()) := by kernel_rfl
/- impl.treeEdges -/
def c_itreeEdges : TC :=
 (.seq (.rg [o1 1 (.a (.t 0)),
   o1 2 (.lit [.sl [.i .i64, .i .i64]] [.slice none 0 0])])
 (.seq (.rg [o1 3 (.lit [.sl [.i .i64, .i .i64]] [.slice none 0 0])])
 (.seq (.join [⟨3, [.sl [.i .i64, .i .i64]], false⟩] 16777192 none (.seq (.rg [o1 6 (.idx .nil),
   o1 7 (.load 1 [] 1 (.t 6) 1 false),
   o1 8 (.len 7),
   o1 9 (.lit [.i .i64] [.int .i64 (0)])])
 (.block 0 (.loop [⟨3, [.sl [.i .i64, .i .i64]], false⟩, ⟨9, [.i .i64], false⟩] 16776744
  (.seq (.rg [o1 10 (.data (.bin .lss) [.t 9, .t 8])])
  (.seq (.cond (.t 10)
   .skip
   (.exit 0))
  (.seq (.join [⟨3, [.sl [.i .i64, .i .i64]], false⟩] 8386600 none (.block 1 (.seq (.rg [o1 11 (.index 7 (.t 9)),
    o1 12 (.load 7 [(0, 4)] 0 (.t 11) 4 false),
    ⟨false, [], [], .det 2 (.a (.c [.i .i64, .i .i64, .i .i64, .b] [.int .i64 (0), .int .i64 (0), .int .i64 (0), .bool false])), [5, 1000000001], (some 5), none⟩,
    o4 1 [5] (.store 5 [] 0 .nil (.t 12))])
  (.seq (.rg [o1 13 (.idx .nil),
    o1 14 (.load 5 [] 3 (.t 13) 1 false)])
  (.cond (.t 14)
   (.rg [⟨false, [], [], .det 2 (.copy 3), [15, 3], (some 15), none⟩,
     o1 16 (.idx .nil),
     o1 17 (.load 5 [] 0 (.t 16) 1 false),
     o1 18 (.idx .nil),
     o1 19 (.load 5 [] 1 (.t 18) 1 false),
     o1 20 (.build [.i .i64, .i .i64] [(0, .t 17), (1, .t 19)]),
     o1 21 (.sli [.i .i64, .i .i64] [.t 20]),
     ⟨false, [], [], .det 2 (.app (some 15) 21), [22, 15], (some 22), none⟩,
     ⟨false, [], [], .det 2 (.copy 22), [3, 22], (some 3), none⟩])
   .skip)))))
  (.rg [o1 23 (.data (.bin .add) [.t 9, .c (.int .i64 (1))]),
    o1 9 (.copy 23)]))))))))
 (.seq (.rg [⟨false, [], [], .det 2 (.copy 3), [24, 3], (some 24), none⟩,
   ⟨false, [], [], .det 2 (.copy 24), [2, 24], (some 2), none⟩])
 .ret))))
def s_itreeEdges : Sig := ⟨[.rd true [.d, .sl (.own none) [.d, .d, .d, .d]]], (.one false [.sl (.own none) [.d, .d]])⟩
noncomputable def E_itreeEdges : TEnv := envOf []
noncomputable def f_itreeEdges (n : Nat) : (Int × List (Int × Int × Int × Bool)) → Option ((List (Int × Int)) × Unit) := runFn n E_itreeEdges c_itreeEdges [[.i .i64, .sl [.i .i64, .i .i64, .i .i64, .b]]] [.sl [.i .i64, .i .i64]] [] [2] .no
noncomputable def g_itreeEdges := f_itreeEdges BIG
noncomputable def p_itreeEdges : TSp := ⟨s_itreeEdges, [[.i .i64, .sl [.i .i64, .i .i64, .i .i64, .b]]], [.sl [.i .i64, .i .i64]], [], Ou.j .no, g_itreeEdges⟩
theorem k_itreeEdges : chkW PG E_itreeEdges 277 s_itreeEdges (c_itreeEdges.ht 25) .no = some (c_itreeEdges.wc E_itreeEdges, [2]) := by kernel_rfl
theorem ok_itreeEdges : p_itreeEdges.Ok PG 277 := mkOk (env_nil PG) k_itreeEdges (by kernel_rfl)
theorem e_itreeEdges (n : Nat) (a0 : Int × List (Int × Int × Int × Bool)) : f_itreeEdges n a0 =
  Option.bind (loopT n (X := (List (Int × Int)) × Int) (B := (List (Int × Int))) (fun self1 x0 =>
    bif decide (x0.2 < (a0.2.length : Int)) then
     Option.bind (bnd a0.2.length x0.2 fun n2 =>
      Option.bind a0.2[n2]? fun y3 =>
      bif y3.2.2.2 then
       bif decide (x0.1.length + ([(y3.1, y3.2.1)]).length ≤ 4294967296) then
        some (x0.1 ++ ([(y3.1, y3.2.1)]))
       else none
      else some x0.1 : Option ((List (Int × Int)))) fun x4 =>
     self1 (x4, IntKind.wrap .i64 (x0.2 + (1 : Int)))
    else some x0.1) ([], (0 : Int)) : Option ((List (Int × Int)))) fun x5 =>
  some (x5, ()) := by kernel_rfl
/- impl.first -/
def c_ifirst : TC :=
 (.seq (.rg [o1 2 (.lit [.sl [.i .i64]] [.slice none 0 0])])
 (.seq (.rg [o1 3 (.lit [.sl [.i .i64]] [.slice none 0 0])])
 (.seq (.join [⟨3, [.sl [.i .i64]], false⟩] 16376 none (.seq (.rg [o1 5 (.copy 0),
   o1 6 (.lit [.i .i64] [.int .i64 (0)])])
 (.block 0 (.loop [⟨3, [.sl [.i .i64]], false⟩, ⟨6, [.i .i64], false⟩] 16344
  (.seq (.rg [o1 7 (.data (.bin .lss) [.t 6, .t 5])])
  (.seq (.cond (.t 7)
   .skip
   (.exit 0))
  (.seq (.block 1 (.seq (.rg [o1 8 (.copy 6),
    o1 4 (.copy 8)])
  (.rg [⟨false, [], [], .det 2 (.copy 3), [9, 3], (some 9), none⟩,
    o1 10 (.copy 4),
    o1 11 (.sli [.i .i64] [.t 10]),
    ⟨false, [], [], .det 2 (.app (some 9) 11), [12, 9], (some 12), none⟩,
    ⟨false, [], [], .det 2 (.copy 12), [3, 12], (some 3), none⟩])))
  (.rg [o1 13 (.data (.bin .add) [.t 6, .c (.int .i64 (1))]),
    o1 6 (.copy 13)]))))))))
 (.seq (.rg [⟨false, [], [], .det 2 (.copy 3), [14, 3], (some 14), none⟩,
   ⟨false, [], [], .det 2 (.copy 14), [2, 14], (some 2), none⟩])
 .ret))))
def s_ifirst : Sig := ⟨[.rd false [.d]], (.one false [.sl (.own none) [.d]])⟩
noncomputable def E_ifirst : TEnv := envOf []
noncomputable def f_ifirst (n : Nat) : Int → Option ((List (Int)) × Unit) := runFn n E_ifirst c_ifirst [[.i .i64]] [.sl [.i .i64]] [] [2] .no
noncomputable def g_ifirst := f_ifirst BIG
noncomputable def p_ifirst : TSp := ⟨s_ifirst, [[.i .i64]], [.sl [.i .i64]], [], Ou.j .no, g_ifirst⟩
theorem k_ifirst : chkW PG E_ifirst 171 s_ifirst (c_ifirst.ht 15) .no = some (c_ifirst.wc E_ifirst, [2]) := by kernel_rfl
theorem ok_ifirst : p_ifirst.Ok PG 171 := mkOk (env_nil PG) k_ifirst (by kernel_rfl)
theorem e_ifirst (n : Nat) (a0 : Int) : f_ifirst n a0 =
  Option.bind (loopT n (X := (List (Int)) × Int) (B := (List (Int))) (fun self1 x0 =>
    bif decide (x0.2 < a0) then
     bif decide (x0.1.length + [x0.2].length ≤ 4294967296) then
      self1 (x0.1 ++ [x0.2], IntKind.wrap .i64 (x0.2 + (1 : Int)))
     else none
    else some x0.1) ([], (0 : Int)) : Option ((List (Int)))) fun x2 =>
  some (x2, ()) := by kernel_rfl
/- impl.union -/
def c_iunion : TC :=
 (.seq (.rg [o1 6 (.lit [.b] [.bool false])])
 (.seq (.rg [⟨true, [], [], .det 1 (.copy 0), [10], (some 10), none⟩,
   o1 11 (.copy 1),
   o1 12 (.index 10 (.t 11)),
   o1 13 (.load 0 [(0, 1)] 0 (.t 12) 1 false),
   ⟨true, [], [], .det 1 (.copy 0), [14], (some 14), none⟩,
   o1 15 (.copy 2),
   o1 16 (.index 14 (.t 15)),
   o1 17 (.load 0 [(0, 1)] 0 (.t 16) 1 false),
   o1 7 (.copy 13),
   o1 8 (.copy 17)])
 (.seq (.seq (.rg [o1 18 (.copy 7),
   o1 19 (.copy 8),
   o1 20 (.data (.bin .eql) [.t 18, .t 19])])
 (.cond (.t 20)
  (.seq (.rg [o1 6 (.lit [.b] [.bool false])])
  .ret)
  .skip))
 (.seq (.join [⟨0, [.sl [.i .i64]], false⟩] 2199021158913 none (.seq (.rg [⟨true, [], [], .det 1 (.copy 0), [21], (some 21), none⟩,
   o1 22 (.len 21),
   o1 23 (.lit [.i .i64] [.int .i64 (0)])])
 (.block 0 (.loop [⟨0, [.sl [.i .i64]], false⟩, ⟨23, [.i .i64], false⟩] 2199016982017
  (.seq (.rg [o1 24 (.data (.bin .lss) [.t 23, .t 22])])
  (.seq (.cond (.t 24)
   .skip
   (.exit 0))
  (.seq (.join [⟨0, [.sl [.i .i64]], false⟩] 1099478073857 none (.block 1 (.seq (.rg [o1 25 (.copy 23),
    o1 9 (.copy 25)])
  (.seq (.rg [⟨true, [], [], .det 1 (.copy 0), [26], (some 26), none⟩,
    o1 27 (.copy 9),
    o1 28 (.index 26 (.t 27)),
    o1 29 (.load 0 [(0, 1)] 0 (.t 28) 1 false),
    o1 30 (.copy 7),
    o1 31 (.copy 8),
    o1 32 (.data .max [.t 30, .t 31]),
    o1 33 (.data (.bin .eql) [.t 29, .t 32])])
  (.cond (.t 33)
   (.rg [⟨true, [], [], .det 1 (.copy 0), [34], (some 34), none⟩,
     o1 35 (.copy 9),
     o1 36 (.copy 7),
     o1 37 (.copy 8),
     o1 38 (.data .min [.t 36, .t 37]),
     o1 39 (.index 34 (.t 35)),
     o4 1 [0, 26, 34] (.store 0 [(0, 1)] 0 (.t 39) (.t 38))])
   .skip)))))
  (.rg [o1 40 (.data (.bin .add) [.t 23, .c (.int .i64 (1))]),
    o1 23 (.copy 40)]))))))))
 (.seq (.rg [o1 6 (.lit [.b] [.bool true])])
 .ret)))))
def s_iunion : Sig := ⟨[.mt false [.sl (.own none) [.d]], .rd false [.d], .rd false [.d]], (.one false [.d])⟩
noncomputable def E_iunion : TEnv := envOf []
noncomputable def f_iunion (n : Nat) : List (Int) × Int × Int → Option ((Bool) × List (Int)) := runFn n E_iunion c_iunion [[.sl [.i .i64]], [.i .i64], [.i .i64]] [.b] [.sl [.i .i64]] [6] (.mt 0 0 0)
noncomputable def g_iunion := f_iunion BIG
noncomputable def p_iunion : TSp := ⟨s_iunion, [[.sl [.i .i64]], [.i .i64], [.i .i64]], [.b], [.sl [.i .i64]], Ou.j (.mt 0 0 0), g_iunion⟩
theorem k_iunion : chkW PG E_iunion 172 s_iunion (c_iunion.ht 41) (.mt 0 0 0) = some (c_iunion.wc E_iunion, [6]) := by kernel_rfl
theorem ok_iunion : p_iunion.Ok PG 172 := mkOk (env_nil PG) k_iunion (by kernel_rfl)
theorem e_iunion (n : Nat) (a0 : List (Int)) (a1 : Int) (a2 : Int) : f_iunion n (a0, a1, a2) =
  bnd a0.length a1 fun n0 =>
  Option.bind a0[n0]? fun y1 =>
  bnd a0.length a2 fun n2 =>
  Option.bind a0[n2]? fun y3 =>
  bif decide (y1 = y3) then
   some (false, a0)
  else Option.bind (loopT n (X := (List (Int)) × Int) (B := (List (Int))) (fun self5 x4 =>
    bif decide (x4.2 < (a0.length : Int)) then
     Option.bind (bnd x4.1.length x4.2 fun n6 =>
      Option.bind x4.1[n6]? fun y7 =>
      bif decide (y7 = (if y3 > y1 then y3 else y1)) then
       bnd x4.1.length x4.2 fun n8 =>
       Option.bind x4.1[n8]? fun y9 =>
       some (x4.1.set n8 (if y3 < y1 then y3 else y1))
      else some x4.1 : Option ((List (Int)))) fun x10 =>
     self5 (x10, IntKind.wrap .i64 (x4.2 + (1 : Int)))
    else some x4.1) (a0, (0 : Int)) : Option ((List (Int)))) fun x11 =>
  some (true, x11) := by kernel_rfl
/- impl.rings -/
def c_irings : TC :=
 (.seq (.rg [o1 4 (.lit [.b] [.bool false])])
 (.seq (.rg [o1 8 (.copy 0),
   o3 9 171 [.t 8],
   ⟨false, [], [], .det 2 (.copy 9), [5, 9], (some 5), none⟩])
 (.seq (.join [] 16776368 (some [⟨4, [.b], false⟩]) (.seq (.rg [o1 10 (.copy 1),
   o1 11 (.len 10),
   o1 12 (.lit [.i .i64] [.int .i64 (0)])])
 (.block 0 (.loop [⟨5, [.sl [.i .i64]], false⟩, ⟨12, [.i .i64], false⟩] 16773296
  (.seq (.rg [o1 13 (.data (.bin .lss) [.t 12, .t 11])])
  (.seq (.cond (.t 13)
   .skip
   (.exit 0))
  (.seq (.block 1 (.seq (.rg [o1 14 (.index 10 (.t 12)),
    o1 15 (.load 10 [(0, 2)] 0 (.t 14) 2 false),
    ⟨false, [], [], .det 2 (.a (.c [.i .i64, .i .i64] [.int .i64 (0), .int .i64 (0)])), [7, 1000000001], (some 7), none⟩,
    o4 1 [7] (.store 7 [] 0 .nil (.t 15))])
  (.seq (.rg [⟨true, [], [], .det 1 (.copy 5), [16], (some 16), none⟩,
    o1 17 (.idx .nil),
    o1 18 (.load 7 [] 0 (.t 17) 1 false),
    o1 19 (.idx .nil),
    o1 20 (.load 7 [] 1 (.t 19) 1 false),
    ⟨false, [], [], .call 2 172 [.t 16, .t 18, .t 20] (.mt 5 [] 0 16 0), [21, 5, 16], (some 21), none⟩,
    o1 22 (.data .not [.t 21])])
  (.cond (.t 22)
   (.seq (.rg [o1 4 (.lit [.b] [.bool true])])
   .ret)
   .skip))))
  (.rg [o1 23 (.data (.bin .add) [.t 12, .c (.int .i64 (1))]),
    o1 12 (.copy 23)]))))))))
 (.seq (.rg [o1 4 (.lit [.b] [.bool false])])
 .ret))))
def s_irings : Sig := ⟨[.rd false [.d], .rd false [.sl (.own none) [.d, .d]]], (.one false [.d])⟩
noncomputable def E_irings : TEnv := envOf [(171, p_ifirst), (172, p_iunion)]
noncomputable def f_irings (n : Nat) : Int × (List (Int × Int)) → Option ((Bool) × Unit) := runFn n E_irings c_irings [[.i .i64], [.sl [.i .i64, .i .i64]]] [.b] [] [4] .no
noncomputable def g_irings := f_irings BIG
noncomputable def p_irings : TSp := ⟨s_irings, [[.i .i64], [.sl [.i .i64, .i .i64]]], [.b], [], Ou.j .no, g_irings⟩
theorem k_irings : chkW PG E_irings 276 s_irings (c_irings.ht 24) .no = some (c_irings.wc E_irings, [4]) := by kernel_rfl
theorem ok_irings : p_irings.Ok PG 276 := mkOk (env_cons ok_ifirst (env_cons ok_iunion (env_nil PG))) k_irings (by kernel_rfl)
theorem e_irings (n : Nat) (a0 : Int) (a1 : List (Int × Int)) : f_irings n (a0, a1) =
  Option.bind (g_ifirst a0) fun r0 =>
  Option.bind (loopT n (X := (List (Int)) × Int) (B := (Unit) ⊕ (Bool)) (fun self2 x1 =>
    bif decide (x1.2 < (a1.length : Int)) then
     bnd a1.length x1.2 fun n3 =>
     Option.bind a1[n3]? fun y4 =>
     Option.bind (g_iunion (x1.1, y4.1, y4.2)) fun r5 =>
     bif !r5.1 then
      some (Sum.inr true)
     else self2 (r5.2, IntKind.wrap .i64 (x1.2 + (1 : Int)))
    else some (Sum.inl ())) (r0.1, (0 : Int)) : Option ((Unit) ⊕ (Bool))) fun y => match y with
  | .inl x6 =>
   some (false, ())
  | .inr x6 =>
   some (x6, ()) := by kernel_rfl
/- impl.forest -/
def c_iforest : TC :=
 (.seq (.rg [o1 2 (.a (.t 0)),
   o1 4 (.lit [.sl [.i .i64, .i .i64]] [.slice none 0 0])])
 (.seq (.rg [o1 5 (.lit [.sl [.i .i64, .i .i64]] [.slice none 0 0])])
 (.seq (.join [⟨5, [.sl [.i .i64, .i .i64]], false⟩] 4294967200 none (.seq (.rg [o1 8 (.idx .nil),
   o1 9 (.load 2 [] 1 (.t 8) 1 false),
   o1 10 (.len 9),
   o1 11 (.lit [.i .i64] [.int .i64 (0)])])
 (.block 0 (.loop [⟨5, [.sl [.i .i64, .i .i64]], false⟩, ⟨11, [.i .i64], false⟩] 4294965408
  (.seq (.rg [o1 12 (.data (.bin .lss) [.t 11, .t 10])])
  (.seq (.cond (.t 12)
   .skip
   (.exit 0))
  (.seq (.join [⟨5, [.sl [.i .i64, .i .i64]], false⟩] 2147475616 none (.block 1 (.seq (.rg [o1 13 (.index 9 (.t 11)),
    o1 14 (.load 9 [(0, 4)] 0 (.t 13) 4 false),
    ⟨false, [], [], .det 2 (.a (.c [.i .i64, .i .i64, .i .i64, .b] [.int .i64 (0), .int .i64 (0), .int .i64 (0), .bool false])), [7, 1000000001], (some 7), none⟩,
    o4 1 [7] (.store 7 [] 0 .nil (.t 14))])
  (.seq (.join [⟨22, [.b], false⟩] 8355840 none (.rg [o1 15 (.idx .nil),
    o1 16 (.load 7 [] 3 (.t 15) 1 false),
    o1 17 (.copy 16),
    o2 18 (.idx .nil) 2 true,
    o2 19 (.load 7 [] 2 (.t 18) 1 false) 2 true,
    o2 20 (.copy 1) 2 true,
    o2 21 (.data (.bin .geq) [.t 19, .t 20]) 2 true,
    ⟨false, [], [], .pick 17 (.t 21) (.c (.bool false)), [22], (some 22), none⟩]))
  (.cond (.t 22)
   (.rg [⟨false, [], [], .det 2 (.copy 5), [23, 5], (some 23), none⟩,
     o1 24 (.idx .nil),
     o1 25 (.load 7 [] 0 (.t 24) 1 false),
     o1 26 (.idx .nil),
     o1 27 (.load 7 [] 1 (.t 26) 1 false),
     o1 28 (.build [.i .i64, .i .i64] [(0, .t 25), (1, .t 27)]),
     o1 29 (.sli [.i .i64, .i .i64] [.t 28]),
     ⟨false, [], [], .det 2 (.app (some 23) 29), [30, 23], (some 30), none⟩,
     ⟨false, [], [], .det 2 (.copy 30), [5, 30], (some 5), none⟩])
   .skip)))))
  (.rg [o1 31 (.data (.bin .add) [.t 11, .c (.int .i64 (1))]),
    o1 11 (.copy 31)]))))))))
 (.seq (.rg [⟨false, [], [], .det 2 (.copy 5), [32, 5], (some 32), none⟩,
   ⟨false, [], [], .det 2 (.copy 32), [4, 32], (some 4), none⟩])
 .ret))))
def s_iforest : Sig := ⟨[.rd true [.d, .sl (.own none) [.d, .d, .d, .d]], .rd false [.d]], (.one false [.sl (.own none) [.d, .d]])⟩
noncomputable def E_iforest : TEnv := envOf []
noncomputable def f_iforest (n : Nat) : (Int × List (Int × Int × Int × Bool)) × Int → Option ((List (Int × Int)) × Unit) := runFn n E_iforest c_iforest [[.i .i64, .sl [.i .i64, .i .i64, .i .i64, .b]], [.i .i64]] [.sl [.i .i64, .i .i64]] [] [4] .no
noncomputable def g_iforest := f_iforest BIG
noncomputable def p_iforest : TSp := ⟨s_iforest, [[.i .i64, .sl [.i .i64, .i .i64, .i .i64, .b]], [.i .i64]], [.sl [.i .i64, .i .i64]], [], Ou.j .no, g_iforest⟩
theorem k_iforest : chkW PG E_iforest 337 s_iforest (c_iforest.ht 33) .no = some (c_iforest.wc E_iforest, [4]) := by kernel_rfl
theorem ok_iforest : p_iforest.Ok PG 337 := mkOk (env_nil PG) k_iforest (by kernel_rfl)
theorem e_iforest (n : Nat) (a0 : Int × List (Int × Int × Int × Bool)) (a1 : Int) : f_iforest n (a0, a1) =
  Option.bind (loopT n (X := (List (Int × Int)) × Int) (B := (List (Int × Int))) (fun self1 x0 =>
    bif decide (x0.2 < (a0.2.length : Int)) then
     Option.bind (bnd a0.2.length x0.2 fun n2 =>
      Option.bind a0.2[n2]? fun y3 =>
      Option.bind (bif y3.2.2.2 then
        some (decide (a1 ≤ y3.2.2.1))
       else some false : Option (Bool)) fun x4 =>
      bif x4 then
       bif decide (x0.1.length + ([(y3.1, y3.2.1)]).length ≤ 4294967296) then
        some (x0.1 ++ ([(y3.1, y3.2.1)]))
       else none
      else some x0.1 : Option ((List (Int × Int)))) fun x5 =>
     self1 (x5, IntKind.wrap .i64 (x0.2 + (1 : Int)))
    else some x0.1) ([], (0 : Int)) : Option ((List (Int × Int)))) fun x6 =>
  some (x6, ()) := by kernel_rfl
/- impl.labelsAt -/
def c_ilabelsAt : TC :=
 (.seq (.rg [o1 2 (.a (.t 0)),
   o1 4 (.lit [.sl [.i .i64]] [.slice none 0 0])])
 (.seq (.rg [o1 8 (.idx .nil),
   o1 9 (.load 2 [] 0 (.t 8) 1 false),
   o3 10 171 [.t 9],
   ⟨false, [], [], .det 2 (.copy 10), [5, 10], (some 5), none⟩])
 (.seq (.join [⟨5, [.sl [.i .i64]], false⟩] 67106976 none (.seq (.rg [o1 11 (.load 2 [] 0 .nil 2 false),
   o1 12 (.copy 1),
   o3 13 337 [.t 11, .t 12],
   o1 14 (.len 13),
   o1 15 (.lit [.i .i64] [.int .i64 (0)])])
 (.block 0 (.loop [⟨5, [.sl [.i .i64]], false⟩, ⟨15, [.i .i64], false⟩] 67076256
  (.seq (.rg [o1 16 (.data (.bin .lss) [.t 15, .t 14])])
  (.seq (.cond (.t 16)
   .skip
   (.exit 0))
  (.seq (.block 1 (.seq (.rg [o1 17 (.index 13 (.t 15)),
    o1 18 (.load 13 [(0, 2)] 0 (.t 17) 2 false),
    ⟨false, [], [], .det 2 (.a (.c [.i .i64, .i .i64] [.int .i64 (0), .int .i64 (0)])), [7, 1000000001], (some 7), none⟩,
    o4 1 [7] (.store 7 [] 0 .nil (.t 18))])
  (.rg [⟨true, [], [], .det 1 (.copy 5), [19], (some 19), none⟩,
    o1 20 (.idx .nil),
    o1 21 (.load 7 [] 0 (.t 20) 1 false),
    o1 22 (.idx .nil),
    o1 23 (.load 7 [] 1 (.t 22) 1 false),
    ⟨false, [], [], .call 2 172 [.t 19, .t 21, .t 23] (.mt 5 [] 0 19 0), [24, 5, 19], (some 24), none⟩])))
  (.rg [o1 25 (.data (.bin .add) [.t 15, .c (.int .i64 (1))]),
    o1 15 (.copy 25)]))))))))
 (.seq (.rg [⟨false, [], [], .det 2 (.copy 5), [26, 5], (some 26), none⟩,
   ⟨false, [], [], .det 2 (.copy 26), [4, 26], (some 4), none⟩])
 .ret))))
def s_ilabelsAt : Sig := ⟨[.rd true [.d, .sl (.own none) [.d, .d, .d, .d]], .rd false [.d]], (.one false [.sl (.own none) [.d]])⟩
noncomputable def E_ilabelsAt : TEnv := envOf [(171, p_ifirst), (337, p_iforest), (172, p_iunion)]
noncomputable def f_ilabelsAt (n : Nat) : (Int × List (Int × Int × Int × Bool)) × Int → Option ((List (Int)) × Unit) := runFn n E_ilabelsAt c_ilabelsAt [[.i .i64, .sl [.i .i64, .i .i64, .i .i64, .b]], [.i .i64]] [.sl [.i .i64]] [] [4] .no
noncomputable def g_ilabelsAt := f_ilabelsAt BIG
noncomputable def p_ilabelsAt : TSp := ⟨s_ilabelsAt, [[.i .i64, .sl [.i .i64, .i .i64, .i .i64, .b]], [.i .i64]], [.sl [.i .i64]], [], Ou.j .no, g_ilabelsAt⟩
theorem k_ilabelsAt : chkW PG E_ilabelsAt 271 s_ilabelsAt (c_ilabelsAt.ht 27) .no = some (c_ilabelsAt.wc E_ilabelsAt, [4]) := by kernel_rfl
theorem ok_ilabelsAt : p_ilabelsAt.Ok PG 271 := mkOk (env_cons ok_ifirst (env_cons ok_iforest (env_cons ok_iunion (env_nil PG)))) k_ilabelsAt (by kernel_rfl)
theorem e_ilabelsAt (n : Nat) (a0 : Int × List (Int × Int × Int × Bool)) (a1 : Int) : f_ilabelsAt n (a0, a1) =
  Option.bind (g_ifirst a0.1) fun r0 =>
  Option.bind (Option.bind (g_iforest (a0, a1)) fun r1 =>
   loopT n (X := (List (Int)) × Int) (B := (List (Int))) (fun self3 x2 =>
    bif decide (x2.2 < (r1.1.length : Int)) then
     bnd r1.1.length x2.2 fun n4 =>
     Option.bind r1.1[n4]? fun y5 =>
     Option.bind (g_iunion (x2.1, y5.1, y5.2)) fun r6 =>
     self3 (r6.2, IntKind.wrap .i64 (x2.2 + (1 : Int)))
    else some x2.1) (r0.1, (0 : Int)) : Option ((List (Int)))) fun x7 =>
  some (x7, ()) := by kernel_rfl
/- impl.sizes -/
def c_isizes : TC :=
 (.seq (.rg [o1 4 (.lit [.i .i64] [.int .i64 (0)])])
 (.seq (.rg [o1 5 (.lit [.i .i64] [.int .i64 (0)])])
 (.seq (.join [⟨5, [.i .i64], false⟩] 1048480 none (.seq (.rg [o1 8 (.copy 0),
   o1 9 (.len 8),
   o1 10 (.lit [.i .i64] [.int .i64 (0)])])
 (.block 0 (.loop [⟨5, [.i .i64], false⟩, ⟨10, [.i .i64], false⟩] 1047712
  (.seq (.rg [o1 11 (.data (.bin .lss) [.t 10, .t 9])])
  (.seq (.cond (.t 11)
   .skip
   (.exit 0))
  (.seq (.join [⟨5, [.i .i64], false⟩] 520352 none (.block 1 (.seq (.rg [o1 12 (.index 8 (.t 10)),
    o1 13 (.load 8 [(0, 1)] 0 (.t 12) 1 false),
    o1 7 (.copy 13)])
  (.seq (.rg [o1 14 (.copy 7),
    o1 15 (.copy 1),
    o1 16 (.data (.bin .eql) [.t 14, .t 15])])
  (.cond (.t 16)
   (.rg [o1 17 (.copy 5),
     o1 18 (.data (.bin .add) [.t 17, .c (.int .i64 (1))]),
     o1 5 (.copy 18)])
   .skip)))))
  (.rg [o1 19 (.data (.bin .add) [.t 10, .c (.int .i64 (1))]),
    o1 10 (.copy 19)]))))))))
 (.seq (.rg [o1 20 (.copy 5),
   o1 4 (.copy 20)])
 .ret))))
def s_isizes : Sig := ⟨[.rd false [.sl (.own none) [.d]], .rd false [.d]], (.one false [.d])⟩
noncomputable def E_isizes : TEnv := envOf []
noncomputable def f_isizes (n : Nat) : List (Int) × Int → Option ((Int) × Unit) := runFn n E_isizes c_isizes [[.sl [.i .i64]], [.i .i64]] [.i .i64] [] [4] .no
noncomputable def g_isizes := f_isizes BIG
noncomputable def p_isizes : TSp := ⟨s_isizes, [[.sl [.i .i64]], [.i .i64]], [.i .i64], [], Ou.j .no, g_isizes⟩
theorem k_isizes : chkW PG E_isizes 336 s_isizes (c_isizes.ht 21) .no = some (c_isizes.wc E_isizes, [4]) := by kernel_rfl
theorem ok_isizes : p_isizes.Ok PG 336 := mkOk (env_nil PG) k_isizes (by kernel_rfl)
theorem e_isizes (n : Nat) (a0 : List (Int)) (a1 : Int) : f_isizes n (a0, a1) =
  Option.bind (loopT n (X := Int × Int) (B := Int) (fun self1 x0 =>
    bif decide (x0.2 < (a0.length : Int)) then
     Option.bind (bnd a0.length x0.2 fun n2 =>
      Option.bind a0[n2]? fun y3 =>
      bif decide (y3 = a1) then
       some (IntKind.wrap .i64 (x0.1 + (1 : Int)))
      else some x0.1 : Option (Int)) fun x4 =>
     self1 (x4, IntKind.wrap .i64 (x0.2 + (1 : Int)))
    else some x0.1) ((0 : Int), (0 : Int)) : Option (Int)) fun x5 =>
  some (x5, ()) := by kernel_rfl
/- impl.levelOk -/
def c_ilevelOk : TC :=
 (.seq (.rg [o1 2 (.a (.t 0)),
   o1 4 (.lit [.b] [.bool false])])
 (.seq (.rg [o1 8 (.load 2 [] 0 .nil 2 false),
   o1 9 (.copy 1),
   o3 10 271 [.t 8, .t 9],
   ⟨false, [], [], .det 2 (.copy 10), [5, 10], (some 5), none⟩])
 (.seq (.join [] 4294965392 (some [⟨4, [.b], false⟩]) (.seq (.rg [o1 11 (.load 2 [] 0 .nil 2 false),
   o1 12 (.copy 1),
   o3 13 337 [.t 11, .t 12],
   o1 14 (.len 13),
   o1 15 (.lit [.i .i64] [.int .i64 (0)])])
 (.block 0 (.loop [⟨15, [.i .i64], false⟩] 4294934672
  (.seq (.rg [o1 16 (.data (.bin .lss) [.t 15, .t 14])])
  (.seq (.cond (.t 16)
   .skip
   (.exit 0))
  (.seq (.block 1 (.seq (.rg [o1 17 (.index 13 (.t 15)),
    o1 18 (.load 13 [(0, 2)] 0 (.t 17) 2 false),
    ⟨false, [], [], .det 2 (.a (.c [.i .i64, .i .i64] [.int .i64 (0), .int .i64 (0)])), [7, 1000000001], (some 7), none⟩,
    o4 1 [7] (.store 7 [] 0 .nil (.t 18))])
  (.seq (.rg [⟨true, [], [], .det 1 (.copy 5), [19], (some 19), none⟩,
    ⟨true, [], [], .det 1 (.copy 5), [20], (some 20), none⟩,
    o1 21 (.idx .nil),
    o1 22 (.load 7 [] 0 (.t 21) 1 false),
    o1 23 (.index 20 (.t 22)),
    o1 24 (.load 5 [(0, 1)] 0 (.t 23) 1 false),
    o3 25 336 [.t 19, .t 24],
    o1 26 (.idx .nil),
    o1 27 (.load 2 [] 0 (.t 26) 1 false),
    o1 28 (.copy 1),
    o1 29 (.data (.bin .shr) [.t 27, .t 28]),
    o1 30 (.data (.bin .gtr) [.t 25, .t 29])])
  (.cond (.t 30)
   (.seq (.rg [o1 4 (.lit [.b] [.bool false])])
   .ret)
   .skip))))
  (.rg [o1 31 (.data (.bin .add) [.t 15, .c (.int .i64 (1))]),
    o1 15 (.copy 31)]))))))))
 (.seq (.rg [o1 4 (.lit [.b] [.bool true])])
 .ret))))
def s_ilevelOk : Sig := ⟨[.rd true [.d, .sl (.own none) [.d, .d, .d, .d]], .rd false [.d]], (.one false [.d])⟩
noncomputable def E_ilevelOk : TEnv := envOf [(271, p_ilabelsAt), (337, p_iforest), (336, p_isizes)]
noncomputable def f_ilevelOk (n : Nat) : (Int × List (Int × Int × Int × Bool)) × Int → Option ((Bool) × Unit) := runFn n E_ilevelOk c_ilevelOk [[.i .i64, .sl [.i .i64, .i .i64, .i .i64, .b]], [.i .i64]] [.b] [] [4] .no
noncomputable def g_ilevelOk := f_ilevelOk BIG
noncomputable def p_ilevelOk : TSp := ⟨s_ilevelOk, [[.i .i64, .sl [.i .i64, .i .i64, .i .i64, .b]], [.i .i64]], [.b], [], Ou.j .no, g_ilevelOk⟩
theorem k_ilevelOk : chkW PG E_ilevelOk 278 s_ilevelOk (c_ilevelOk.ht 32) .no = some (c_ilevelOk.wc E_ilevelOk, [4]) := by kernel_rfl
theorem ok_ilevelOk : p_ilevelOk.Ok PG 278 := mkOk (env_cons ok_ilabelsAt (env_cons ok_iforest (env_cons ok_isizes (env_nil PG)))) k_ilevelOk (by kernel_rfl)
theorem e_ilevelOk (n : Nat) (a0 : Int × List (Int × Int × Int × Bool)) (a1 : Int) : f_ilevelOk n (a0, a1) =
  Option.bind (g_ilabelsAt (a0, a1)) fun r0 =>
  Option.bind (Option.bind (g_iforest (a0, a1)) fun r1 =>
   loopT n (X := Int) (B := (Unit) ⊕ (Bool)) (fun self3 x2 =>
    bif decide (x2 < (r1.1.length : Int)) then
     bnd r1.1.length x2 fun n4 =>
     Option.bind r1.1[n4]? fun y5 =>
     bnd r0.1.length y5.1 fun n6 =>
     Option.bind r0.1[n6]? fun y7 =>
     Option.bind (g_isizes (r0.1, y7)) fun r8 =>
     bif decide (a1 < 0) then
      none
     else bif decide ((Int.fdiv a0.1 (2 ^ (Nat.min (Int.toNat a1) (IntKind.bits .i64)))) < r8.1) then
      some (Sum.inr false)
     else self3 (IntKind.wrap .i64 (x2 + (1 : Int)))
    else some (Sum.inl ())) (0 : Int) : Option ((Unit) ⊕ (Bool))) fun y => match y with
  | .inl x9 =>
   some (true, ())
  | .inr x9 =>
   some (x9, ()) := by kernel_rfl
/- impl.WebOk -/
def c_iWebOk : TC :=
 (.seq (.rg [o1 1 (.a (.t 0)),
   o1 2 (.lit [.b] [.bool false])])
 (.seq (.seq (.join [⟨17, [.b], false⟩] 262016 none (.rg [o1 7 (.load 1 [] 0 .nil 2 false),
   o3 8 131 [.t 7],
   o3 9 275 [.t 8],
   o1 10 (.data .not [.t 9]),
   o1 11 (.copy 10),
   o2 12 (.idx .nil) 4 false,
   o2 13 (.load 1 [] 0 (.t 12) 1 false) 4 false,
   o2 14 (.load 1 [] 0 .nil 2 false) 4 false,
   ⟨false, [], [], .call 1 277 [.t 14] .no, [15], (some 15), some (4, false)⟩,
   ⟨false, [], [], .call 1 276 [.t 13, .t 15] .no, [16], (some 16), some (4, false)⟩,
   ⟨false, [], [], .pick 11 (.c (.bool true)) (.t 16), [17], (some 17), none⟩]))
 (.cond (.t 17)
  (.seq (.rg [o1 2 (.lit [.b] [.bool false])])
  .ret)
  .skip))
 (.seq (.join [] 1125899906580532 (some [⟨2, [.b], false⟩]) (.seq (.rg [o1 18 (.idx .nil),
   o1 19 (.load 1 [] 1 (.t 18) 1 false),
   o1 20 (.len 19),
   o1 21 (.lit [.i .i64] [.int .i64 (0)])])
 (.block 0 (.loop [⟨21, [.i .i64], false⟩] 1125899904745524
  (.seq (.rg [o1 22 (.data (.bin .lss) [.t 21, .t 20])])
  (.seq (.cond (.t 22)
   .skip
   (.exit 0))
  (.seq (.join [] 562949945032756 (some [⟨2, [.b], false⟩]) (.block 1 (.seq (.rg [o1 23 (.index 19 (.t 21)),
    o1 24 (.load 19 [(0, 4)] 0 (.t 23) 4 false),
    ⟨false, [], [], .det 2 (.a (.c [.i .i64, .i .i64, .i .i64, .b] [.int .i64 (0), .int .i64 (0), .int .i64 (0), .bool false])), [4, 1000000001], (some 4), none⟩,
    o4 1 [4] (.store 4 [] 0 .nil (.t 24))])
  (.seq (.seq (.rg [o1 25 (.idx .nil),
    o1 26 (.load 4 [] 2 (.t 25) 1 false),
    o3 27 161 [.t 26, .c [.i .i64] [.int .i64 (0)], .c [.i .i64] [.int .i64 (4)]],
    o1 28 (.data .not [.t 27])])
  (.cond (.t 28)
   (.seq (.rg [o1 2 (.lit [.b] [.bool false])])
   .ret)
   .skip))
  (.seq (.rg [o1 29 (.load 1 [] 0 .nil 2 false),
    o1 30 (.idx .nil),
    o1 31 (.load 4 [] 2 (.t 30) 1 false),
    o3 32 271 [.t 29, .t 31],
    ⟨false, [], [], .det 2 (.copy 32), [5, 32], (some 5), none⟩])
  (.seq (.join [⟨48, [.b], false⟩] 562941363486720 none (.rg [o1 33 (.idx .nil),
    o1 34 (.load 4 [] 3 (.t 33) 1 false),
    o1 35 (.data .not [.t 34]),
    o1 36 (.copy 35),
    ⟨true, [], [], .det 1 (.copy 5), [37], (some 37), some (3, true)⟩,
    o2 38 (.idx .nil) 3 true,
    o2 39 (.load 4 [] 0 (.t 38) 1 false) 3 true,
    o2 40 (.index 37 (.t 39)) 3 true,
    o2 41 (.load 5 [(0, 1)] 0 (.t 40) 1 false) 3 true,
    ⟨true, [], [], .det 1 (.copy 5), [42], (some 42), some (3, true)⟩,
    o2 43 (.idx .nil) 3 true,
    o2 44 (.load 4 [] 1 (.t 43) 1 false) 3 true,
    o2 45 (.index 42 (.t 44)) 3 true,
    o2 46 (.load 5 [(0, 1)] 0 (.t 45) 1 false) 3 true,
    o2 47 (.data (.bin .neq) [.t 41, .t 46]) 3 true,
    ⟨false, [], [], .pick 36 (.t 47) (.c (.bool false)), [48], (some 48), none⟩]))
  (.cond (.t 48)
   (.seq (.rg [o1 2 (.lit [.b] [.bool false])])
   .ret)
   .skip)))))))
  (.rg [o1 49 (.data (.bin .add) [.t 21, .c (.int .i64 (1))]),
    o1 21 (.copy 49)]))))))))
 (.seq (.join [] 287104476244869188 (some [⟨2, [.b], false⟩]) (.seq (.rg [o1 6 (.lit [.i .i64] [.int .i64 (1)])])
 (.block 2 (.loop [⟨6, [.i .i64], false⟩] 287104476244869188
  (.seq (.seq (.rg [o1 50 (.copy 6),
    o1 51 (.data (.bin .leq) [.t 50, .c (.int .i64 (4))])])
  (.cond (.t 51)
   .skip
   (.exit 2)))
  (.seq (.block 3 (.seq (.rg [o1 54 (.load 1 [] 0 .nil 2 false),
    o1 55 (.copy 6),
    o3 56 278 [.t 54, .t 55],
    o1 57 (.data .not [.t 56])])
  (.cond (.t 57)
   (.seq (.rg [o1 2 (.lit [.b] [.bool false])])
   .ret)
   .skip)))
  (.rg [o1 52 (.copy 6),
    o1 53 (.data (.bin .add) [.t 52, .c (.int .i64 (1))]),
    o1 6 (.copy 53)])))))))
 (.seq (.rg [o1 2 (.lit [.b] [.bool true])])
 .ret)))))
def s_iWebOk : Sig := ⟨[.rd true [.d, .sl (.own none) [.d, .d, .d, .d]]], (.one false [.d])⟩
noncomputable def E_iWebOk : TEnv := envOf [(131, p_iGraphOf), (275, p_iGraphOk), (277, p_itreeEdges), (276, p_irings), (161, p_iin), (271, p_ilabelsAt), (278, p_ilevelOk)]
noncomputable def f_iWebOk (n : Nat) : (Int × List (Int × Int × Int × Bool)) → Option ((Bool) × Unit) := runFn n E_iWebOk c_iWebOk [[.i .i64, .sl [.i .i64, .i .i64, .i .i64, .b]]] [.b] [] [2] .no
noncomputable def g_iWebOk := f_iWebOk BIG
noncomputable def p_iWebOk : TSp := ⟨s_iWebOk, [[.i .i64, .sl [.i .i64, .i .i64, .i .i64, .b]]], [.b], [], Ou.j .no, g_iWebOk⟩
theorem k_iWebOk : chkW PG E_iWebOk 137 s_iWebOk (c_iWebOk.ht 58) .no = some (c_iWebOk.wc E_iWebOk, [2]) := by kernel_rfl
theorem ok_iWebOk : p_iWebOk.Ok PG 137 := mkOk (env_cons ok_iGraphOf (env_cons ok_iGraphOk (env_cons ok_itreeEdges (env_cons ok_irings (env_cons ok_iin (env_cons ok_ilabelsAt (env_cons ok_ilevelOk (env_nil PG)))))))) k_iWebOk (by kernel_rfl)
theorem e_iWebOk (n : Nat) (a0 : Int × List (Int × Int × Int × Bool)) : f_iWebOk n a0 =
  Option.bind (Option.bind (g_iGraphOf a0) fun r0 =>
   Option.bind (g_iGraphOk r0.1) fun r1 =>
   bif !r1.1 then
    some true
   else Option.bind (g_itreeEdges a0) fun r2 =>
   Option.bind (g_irings (a0.1, r2.1)) fun r3 =>
   some r3.1 : Option (Bool)) fun x4 =>
  bif x4 then
   some (false, ())
  else Option.bind (loopT n (X := Int) (B := (Unit) ⊕ (Bool)) (fun self6 x5 =>
    bif decide (x5 < (a0.2.length : Int)) then
     Option.bind (bnd a0.2.length x5 fun n7 =>
      Option.bind a0.2[n7]? fun y8 =>
      Option.bind (g_iin (y8.2.2.1, (0 : Int), (4 : Int))) fun r9 =>
      bif !r9.1 then
       some (Sum.inr false)
      else Option.bind (g_ilabelsAt (a0, y8.2.2.1)) fun r10 =>
      Option.bind (bif !y8.2.2.2 then
        bnd r10.1.length y8.1 fun n11 =>
        Option.bind r10.1[n11]? fun y12 =>
        bnd r10.1.length y8.2.1 fun n13 =>
        Option.bind r10.1[n13]? fun y14 =>
        some (!decide (y12 = y14))
       else some false : Option (Bool)) fun x15 =>
      bif x15 then
       some (Sum.inr false)
      else some (Sum.inl ()) : Option ((Unit) ⊕ (Bool))) fun y => match y with
     | .inl x16 =>
      self6 (IntKind.wrap .i64 (x5 + (1 : Int)))
     | .inr x16 =>
      some (Sum.inr x16)
    else some (Sum.inl ())) (0 : Int) : Option ((Unit) ⊕ (Bool))) fun y => match y with
  | .inl x17 =>
   Option.bind (loopT n (X := Int) (B := (Unit) ⊕ (Bool)) (fun self19 x18 =>
     bif decide (x18 ≤ (4 : Int)) then
      Option.bind (g_ilevelOk (a0, x18)) fun r20 =>
      bif !r20.1 then
       some (Sum.inr false)
      else self19 (IntKind.wrap .i64 (x18 + (1 : Int)))
     else some (Sum.inl ())) (1 : Int) : Option ((Unit) ⊕ (Bool))) fun y => match y with
   | .inl x21 =>
    some (true, ())
   | .inr x21 =>
    some (x21, ())
  | .inr x17 =>
   some (x17, ()) := by kernel_rfl
/- impl.noAnswer -/
def c_inoAnswer : TC :=
 (.seq (.rg [o1 1 (.a (.t 0)),
   o1 2 (.lit [.b] [.bool false])])
 (.seq (.join [⟨2, [.b], false⟩] 8388604 none (.rg [o1 3 (.idx .nil),
   o1 4 (.load 1 [] 0 (.t 3) 1 false),
   o1 5 (.data (.bin .eql) [.t 4, .c (.int .i64 (0))]),
   o1 6 (.copy 5),
   o2 7 (.idx .nil) 3 true,
   o2 8 (.load 1 [] 1 (.t 7) 1 false) 3 true,
   o2 9 (.data .not [.t 8]) 3 true,
   ⟨false, [], [], .pick 6 (.t 9) (.c (.bool false)), [10], (some 10), none⟩,
   o1 11 (.copy 10),
   o2 12 (.idx .nil) 8 true,
   o2 13 (.load 1 [] 2 (.t 12) 1 false) 8 true,
   o2 14 (.len 13) 8 true,
   o2 15 (.data (.bin .eql) [.t 14, .c (.int .i64 (0))]) 8 true,
   ⟨false, [], [], .pick 11 (.t 15) (.c (.bool false)), [16], (some 16), none⟩,
   o1 17 (.copy 16),
   o2 18 (.idx .nil) 14 true,
   o2 19 (.load 1 [] 3 (.t 18) 1 false) 14 true,
   o2 20 (.len 19) 14 true,
   o2 21 (.data (.bin .eql) [.t 20, .c (.int .i64 (0))]) 14 true,
   ⟨false, [], [], .pick 17 (.t 21) (.c (.bool false)), [22], (some 22), none⟩,
   o1 2 (.copy 22)]))
 .ret))
def s_inoAnswer : Sig := ⟨[.rd true [.d, .d, .sl (.own none) [.d, .d], .sl (.own none) [.d]]], (.one false [.d])⟩
noncomputable def E_inoAnswer : TEnv := envOf []
noncomputable def f_inoAnswer (n : Nat) : (Int × Bool × List (Int × Int) × List (Int)) → Option ((Bool) × Unit) := runFn n E_inoAnswer c_inoAnswer [[.i .i64, .b, .sl [.i .i64, .i .i64], .sl [.i .i64]]] [.b] [] [2] .no
noncomputable def g_inoAnswer := f_inoAnswer BIG
noncomputable def p_inoAnswer : TSp := ⟨s_inoAnswer, [[.i .i64, .b, .sl [.i .i64, .i .i64], .sl [.i .i64]]], [.b], [], Ou.j .no, g_inoAnswer⟩
theorem k_inoAnswer : chkW PG E_inoAnswer 164 s_inoAnswer (c_inoAnswer.ht 23) .no = some (c_inoAnswer.wc E_inoAnswer, [2]) := by kernel_rfl
theorem ok_inoAnswer : p_inoAnswer.Ok PG 164 := mkOk (env_nil PG) k_inoAnswer (by kernel_rfl)
theorem e_inoAnswer (n : Nat) (a0 : Int × Bool × List (Int × Int) × List (Int)) : f_inoAnswer n a0 =
  Option.bind (bif decide (a0.1 = (0 : Int)) then
    bif !a0.2.1 then
     bif decide ((a0.2.2.1.length : Int) = (0 : Int)) then
      some (decide ((a0.2.2.2.length : Int) = (0 : Int)))
     else some false
    else some false
   else some false : Option (Bool)) fun x0 =>
  some (x0, ()) := by kernel_rfl
/- impl.labelsOk -/
def c_ilabelsOk : TC :=
 (.seq (.rg [o1 4 (.lit [.b] [.bool false])])
 (.seq (.seq (.rg [o1 7 (.copy 1),
   o1 8 (.len 7),
   o1 9 (.copy 0),
   o1 10 (.data (.bin .neq) [.t 8, .t 9])])
 (.cond (.t 10)
  (.seq (.rg [o1 4 (.lit [.b] [.bool false])])
  .ret)
  .skip))
 (.seq (.join [] 2147481712 (some [⟨4, [.b], false⟩]) (.seq (.rg [o1 11 (.copy 1),
   o1 12 (.len 11),
   o1 13 (.lit [.i .i64] [.int .i64 (0)])])
 (.block 0 (.loop [⟨13, [.i .i64], false⟩] 2147475568
  (.seq (.rg [o1 14 (.data (.bin .lss) [.t 13, .t 12])])
  (.seq (.cond (.t 14)
   .skip
   (.exit 0))
  (.seq (.join [] 1073709168 (some [⟨4, [.b], false⟩]) (.block 1 (.seq (.rg [o1 15 (.copy 13),
    o1 16 (.index 11 (.t 13)),
    o1 17 (.load 11 [(0, 1)] 0 (.t 16) 1 false),
    o1 5 (.copy 15),
    o1 6 (.copy 17)])
  (.seq (.join [⟨29, [.b], false⟩] 1073479680 none (.rg [o1 18 (.copy 6),
    o1 19 (.copy 5),
    o3 20 161 [.t 18, .c [.i .i64] [.int .i64 (0)], .t 19],
    o1 21 (.data .not [.t 20]),
    o1 22 (.copy 21),
    o2 23 (.copy 1) 4 false,
    o2 24 (.copy 6) 4 false,
    o2 25 (.index 23 (.t 24)) 4 false,
    o2 26 (.load 23 [(0, 1)] 0 (.t 25) 1 false) 4 false,
    o2 27 (.copy 6) 4 false,
    o2 28 (.data (.bin .neq) [.t 26, .t 27]) 4 false,
    ⟨false, [], [], .pick 22 (.c (.bool true)) (.t 28), [29], (some 29), none⟩]))
  (.cond (.t 29)
   (.seq (.rg [o1 4 (.lit [.b] [.bool false])])
   .ret)
   .skip)))))
  (.rg [o1 30 (.data (.bin .add) [.t 13, .c (.int .i64 (1))]),
    o1 13 (.copy 30)]))))))))
 (.seq (.rg [o1 4 (.lit [.b] [.bool true])])
 .ret))))
def s_ilabelsOk : Sig := ⟨[.rd false [.d], .rd false [.sl (.own none) [.d]]], (.one false [.d])⟩
noncomputable def E_ilabelsOk : TEnv := envOf [(161, p_iin)]
noncomputable def f_ilabelsOk (n : Nat) : Int × List (Int) → Option ((Bool) × Unit) := runFn n E_ilabelsOk c_ilabelsOk [[.i .i64], [.sl [.i .i64]]] [.b] [] [4] .no
noncomputable def g_ilabelsOk := f_ilabelsOk BIG
noncomputable def p_ilabelsOk : TSp := ⟨s_ilabelsOk, [[.i .i64], [.sl [.i .i64]]], [.b], [], Ou.j .no, g_ilabelsOk⟩
theorem k_ilabelsOk : chkW PG E_ilabelsOk 205 s_ilabelsOk (c_ilabelsOk.ht 31) .no = some (c_ilabelsOk.wc E_ilabelsOk, [4]) := by kernel_rfl
theorem ok_ilabelsOk : p_ilabelsOk.Ok PG 205 := mkOk (env_cons ok_iin (env_nil PG)) k_ilabelsOk (by kernel_rfl)
theorem e_ilabelsOk (n : Nat) (a0 : Int) (a1 : List (Int)) : f_ilabelsOk n (a0, a1) =
  bif !decide ((a1.length : Int) = a0) then
   some (false, ())
  else Option.bind (loopT n (X := Int) (B := (Unit) ⊕ (Bool)) (fun self1 x0 =>
    bif decide (x0 < (a1.length : Int)) then
     Option.bind (bnd a1.length x0 fun n2 =>
      Option.bind a1[n2]? fun y3 =>
      Option.bind (Option.bind (g_iin (y3, (0 : Int), x0)) fun r4 =>
       bif !r4.1 then
        some true
       else bnd a1.length y3 fun n5 =>
       Option.bind a1[n5]? fun y6 =>
       some (!decide (y6 = y3)) : Option (Bool)) fun x7 =>
      bif x7 then
       some (Sum.inr false)
      else some (Sum.inl ()) : Option ((Unit) ⊕ (Bool))) fun y => match y with
     | .inl x8 =>
      self1 (IntKind.wrap .i64 (x0 + (1 : Int)))
     | .inr x8 =>
      some (Sum.inr x8)
    else some (Sum.inl ())) (0 : Int) : Option ((Unit) ⊕ (Bool))) fun y => match y with
  | .inl x9 =>
   some (true, ())
  | .inr x9 =>
   some (x9, ()) := by kernel_rfl
/- impl.AnswerOk -/
def c_iAnswerOk : TC :=
 (.seq (.rg [o1 3 (.a (.t 1)),
   o1 4 (.lit [.b] [.bool false])])
 (.seq (.join [⟨4, [.b], false⟩] 16777200 none (.rg [o1 5 (.copy 0),
   o3 6 161 [.t 5, .c [.i .i64] [.int .i64 (1)], .c [.i .i64] [.int .i64 (12)]],
   o1 7 (.copy 6),
   o2 8 (.idx .nil) 2 true,
   o2 9 (.load 3 [] 0 (.t 8) 1 false) 2 true,
   ⟨false, [], [], .call 1 161 [.t 9, .c [.i .i64] [.int .i64 (1)], .c [.i .i64] [.int .i64 (100000)]] .no, [10], (some 10), some (2, true)⟩,
   ⟨false, [], [], .pick 7 (.t 10) (.c (.bool false)), [11], (some 11), none⟩,
   o1 12 (.copy 11),
   o2 13 (.copy 0) 7 true,
   o2 14 (.idx .nil) 7 true,
   o2 15 (.load 3 [] 2 (.t 14) 1 false) 7 true,
   ⟨false, [], [], .call 1 255 [.t 13, .t 15] .no, [16], (some 16), some (7, true)⟩,
   ⟨false, [], [], .pick 12 (.t 16) (.c (.bool false)), [17], (some 17), none⟩,
   o1 18 (.copy 17),
   o2 19 (.copy 0) 13 true,
   o2 20 (.idx .nil) 13 true,
   o2 21 (.load 3 [] 3 (.t 20) 1 false) 13 true,
   ⟨false, [], [], .call 1 205 [.t 19, .t 21] .no, [22], (some 22), some (13, true)⟩,
   ⟨false, [], [], .pick 18 (.t 22) (.c (.bool false)), [23], (some 23), none⟩,
   o1 4 (.copy 23)]))
 .ret))
def s_iAnswerOk : Sig := ⟨[.rd false [.d], .rd true [.d, .d, .sl (.own none) [.d, .d], .sl (.own none) [.d]]], (.one false [.d])⟩
noncomputable def E_iAnswerOk : TEnv := envOf [(161, p_iin), (255, p_iedgesOk), (205, p_ilabelsOk)]
noncomputable def f_iAnswerOk (n : Nat) : Int × (Int × Bool × List (Int × Int) × List (Int)) → Option ((Bool) × Unit) := runFn n E_iAnswerOk c_iAnswerOk [[.i .i64], [.i .i64, .b, .sl [.i .i64, .i .i64], .sl [.i .i64]]] [.b] [] [4] .no
noncomputable def g_iAnswerOk := f_iAnswerOk BIG
noncomputable def p_iAnswerOk : TSp := ⟨s_iAnswerOk, [[.i .i64], [.i .i64, .b, .sl [.i .i64, .i .i64], .sl [.i .i64]]], [.b], [], Ou.j .no, g_iAnswerOk⟩
theorem k_iAnswerOk : chkW PG E_iAnswerOk 121 s_iAnswerOk (c_iAnswerOk.ht 24) .no = some (c_iAnswerOk.wc E_iAnswerOk, [4]) := by kernel_rfl
theorem ok_iAnswerOk : p_iAnswerOk.Ok PG 121 := mkOk (env_cons ok_iin (env_cons ok_iedgesOk (env_cons ok_ilabelsOk (env_nil PG)))) k_iAnswerOk (by kernel_rfl)
theorem e_iAnswerOk (n : Nat) (a0 : Int) (a1 : Int × Bool × List (Int × Int) × List (Int)) : f_iAnswerOk n (a0, a1) =
  Option.bind (Option.bind (g_iin (a0, (1 : Int), (12 : Int))) fun r0 =>
   bif r0.1 then
    Option.bind (g_iin (a1.1, (1 : Int), (100000 : Int))) fun r1 =>
    bif r1.1 then
     Option.bind (g_iedgesOk (a0, a1.2.2.1)) fun r2 =>
     bif r2.1 then
      Option.bind (g_ilabelsOk (a0, a1.2.2.2)) fun r3 =>
      some r3.1
     else some false
    else some false
   else some false : Option (Bool)) fun x4 =>
  some (x4, ()) := by kernel_rfl
/- impl.WebLabels -/
def c_iWebLabels : TC :=
 (.seq (.rg [o1 1 (.a (.t 0)),
   o1 2 (.lit [.sl [.i .i64]] [.slice none 0 0])])
 (.seq (.seq (.rg [o1 3 (.load 1 [] 0 .nil 2 false),
   o3 4 137 [.t 3],
   o1 5 (.data .not [.t 4])])
 (.cond (.t 5)
  (.seq (.rg [o1 2 (.lit [.sl [.i .i64]] [.slice none 0 0])])
  .ret)
  .skip))
 (.seq (.rg [o1 6 (.load 1 [] 0 .nil 2 false),
   o3 7 271 [.t 6, .c [.i .i64] [.int .i64 (0)]],
   ⟨false, [], [], .det 2 (.copy 7), [2, 7], (some 2), none⟩])
 .ret)))
def s_iWebLabels : Sig := ⟨[.rd true [.d, .sl (.own none) [.d, .d, .d, .d]]], (.one false [.sl (.own none) [.d]])⟩
noncomputable def E_iWebLabels : TEnv := envOf [(137, p_iWebOk), (271, p_ilabelsAt)]
noncomputable def f_iWebLabels (n : Nat) : (Int × List (Int × Int × Int × Bool)) → Option ((List (Int)) × Unit) := runFn n E_iWebLabels c_iWebLabels [[.i .i64, .sl [.i .i64, .i .i64, .i .i64, .b]]] [.sl [.i .i64]] [] [2] .no
noncomputable def g_iWebLabels := f_iWebLabels BIG
noncomputable def p_iWebLabels : TSp := ⟨s_iWebLabels, [[.i .i64, .sl [.i .i64, .i .i64, .i .i64, .b]]], [.sl [.i .i64]], [], Ou.j .no, g_iWebLabels⟩
theorem k_iWebLabels : chkW PG E_iWebLabels 139 s_iWebLabels (c_iWebLabels.ht 8) .no = some (c_iWebLabels.wc E_iWebLabels, [2]) := by kernel_rfl
theorem ok_iWebLabels : p_iWebLabels.Ok PG 139 := mkOk (env_cons ok_iWebOk (env_cons ok_ilabelsAt (env_nil PG))) k_iWebLabels (by kernel_rfl)
theorem e_iWebLabels (n : Nat) (a0 : Int × List (Int × Int × Int × Bool)) : f_iWebLabels n a0 =
  Option.bind (g_iWebOk a0) fun r0 =>
  bif !r0.1 then
   some ([], ())
  else Option.bind (g_ilabelsAt (a0, (0 : Int))) fun r1 =>
  some (r1.1, ()) := by kernel_rfl
/- impl.sameInts -/
def c_isameInts : TC :=
 (.seq (.rg [o1 4 (.lit [.b] [.bool false])])
 (.seq (.seq (.rg [o1 6 (.copy 0),
   o1 7 (.len 6),
   o1 8 (.copy 1),
   o1 9 (.len 8),
   o1 10 (.data (.bin .neq) [.t 7, .t 9])])
 (.cond (.t 10)
  (.seq (.rg [o1 4 (.lit [.b] [.bool false])])
  .ret)
  .skip))
 (.seq (.join [] 67106864 (some [⟨4, [.b], false⟩]) (.seq (.rg [o1 11 (.copy 0),
   o1 12 (.len 11),
   o1 13 (.lit [.i .i64] [.int .i64 (0)])])
 (.block 0 (.loop [⟨13, [.i .i64], false⟩] 67100720
  (.seq (.rg [o1 14 (.data (.bin .lss) [.t 13, .t 12])])
  (.seq (.cond (.t 14)
   .skip
   (.exit 0))
  (.seq (.block 1 (.seq (.rg [o1 15 (.copy 13),
    o1 5 (.copy 15)])
  (.seq (.rg [o1 16 (.copy 0),
    o1 17 (.copy 5),
    o1 18 (.index 16 (.t 17)),
    o1 19 (.load 16 [(0, 1)] 0 (.t 18) 1 false),
    o1 20 (.copy 1),
    o1 21 (.copy 5),
    o1 22 (.index 20 (.t 21)),
    o1 23 (.load 20 [(0, 1)] 0 (.t 22) 1 false),
    o1 24 (.data (.bin .neq) [.t 19, .t 23])])
  (.cond (.t 24)
   (.seq (.rg [o1 4 (.lit [.b] [.bool false])])
   .ret)
   .skip))))
  (.rg [o1 25 (.data (.bin .add) [.t 13, .c (.int .i64 (1))]),
    o1 13 (.copy 25)]))))))))
 (.seq (.rg [o1 4 (.lit [.b] [.bool true])])
 .ret))))
def s_isameInts : Sig := ⟨[.rd false [.sl (.own none) [.d]], .rd false [.sl (.own none) [.d]]], (.one false [.d])⟩
noncomputable def E_isameInts : TEnv := envOf []
noncomputable def f_isameInts (n : Nat) : List (Int) × List (Int) → Option ((Bool) × Unit) := runFn n E_isameInts c_isameInts [[.sl [.i .i64]], [.sl [.i .i64]]] [.b] [] [4] .no
noncomputable def g_isameInts := f_isameInts BIG
noncomputable def p_isameInts : TSp := ⟨s_isameInts, [[.sl [.i .i64]], [.sl [.i .i64]]], [.b], [], Ou.j .no, g_isameInts⟩
theorem k_isameInts : chkW PG E_isameInts 165 s_isameInts (c_isameInts.ht 26) .no = some (c_isameInts.wc E_isameInts, [4]) := by kernel_rfl
theorem ok_isameInts : p_isameInts.Ok PG 165 := mkOk (env_nil PG) k_isameInts (by kernel_rfl)
theorem e_isameInts (n : Nat) (a0 : List (Int)) (a1 : List (Int)) : f_isameInts n (a0, a1) =
  bif !decide ((a0.length : Int) = (a1.length : Int)) then
   some (false, ())
  else Option.bind (loopT n (X := Int) (B := (Unit) ⊕ (Bool)) (fun self1 x0 =>
    bif decide (x0 < (a0.length : Int)) then
     bnd a0.length x0 fun n2 =>
     Option.bind a0[n2]? fun y3 =>
     bnd a1.length x0 fun n4 =>
     Option.bind a1[n4]? fun y5 =>
     bif !decide (y3 = y5) then
      some (Sum.inr false)
     else self1 (IntKind.wrap .i64 (x0 + (1 : Int)))
    else some (Sum.inl ())) (0 : Int) : Option ((Unit) ⊕ (Bool))) fun y => match y with
  | .inl x6 =>
   some (true, ())
  | .inr x6 =>
   some (x6, ()) := by kernel_rfl
/- impl.ShardOk -/
def c_iShardOk : TC :=
 (.seq (.rg [o1 1 (.a (.t 0)),
   o1 2 (.lit [.b] [.bool false])])
 (.seq (.seq (.join [⟨12, [.b], false⟩] 8184 none (.rg [o1 3 (.idx .nil),
   o1 4 (.load 1 [] 0 (.t 3) 1 false),
   o3 5 161 [.t 4, .c [.i .i64] [.int .i64 (1)], .c [.i .i64] [.int .i64 (3)]],
   o1 6 (.data .not [.t 5]),
   o1 7 (.copy 6),
   o2 8 (.idx .nil) 4 false,
   o2 9 (.load 1 [] 1 (.t 8) 2 false) 4 false,
   ⟨false, [], [], .call 1 137 [.t 9] .no, [10], (some 10), some (4, false)⟩,
   o2 11 (.data .not [.t 10]) 4 false,
   ⟨false, [], [], .pick 7 (.c (.bool true)) (.t 11), [12], (some 12), none⟩]))
 (.cond (.t 12)
  (.seq (.rg [o1 2 (.lit [.b] [.bool false])])
  .ret)
  .skip))
 (.seq (.join [⟨2, [.b], false⟩] 8589926404 none (.rg [o1 13 (.idx .nil),
   o1 14 (.load 1 [] 3 (.t 13) 4 false),
   o3 15 164 [.t 14],
   o1 16 (.copy 15),
   o2 17 (.idx .nil) 3 false,
   o2 18 (.idx (.t 17)) 3 false,
   o2 19 (.load 1 [] 1 (.t 18) 1 false) 3 false,
   o2 20 (.idx .nil) 3 false,
   o2 21 (.load 1 [] 3 (.t 20) 4 false) 3 false,
   ⟨false, [], [], .call 1 121 [.t 19, .t 21] .no, [22], (some 22), some (3, false)⟩,
   o2 23 (.copy 22) 3 false,
   o2 24 (.idx .nil) 10 true,
   o2 25 (.idx (.t 24)) 10 true,
   o2 26 (.load 1 [] 6 (.t 25) 1 false) 10 true,
   o2 27 (.idx .nil) 10 true,
   o2 28 (.load 1 [] 1 (.t 27) 2 false) 10 true,
   ⟨false, [], [], .call 1 139 [.t 28] .no, [29], (some 29), some (10, true)⟩,
   ⟨false, [], [], .call 1 165 [.t 26, .t 29] .no, [30], (some 30), some (10, true)⟩,
   ⟨false, [], [], .pick 23 (.t 30) (.c (.bool false)), [31], (some 31), some (3, false)⟩,
   ⟨false, [], [], .pick 16 (.c (.bool true)) (.t 31), [32], (some 32), none⟩,
   o1 2 (.copy 32)]))
 .ret)))
def s_iShardOk : Sig := ⟨[.rd true [.d, .d, .sl (.own none) [.d, .d, .d, .d], .d, .d, .sl (.own none) [.d, .d], .sl (.own none) [.d]]], (.one false [.d])⟩
noncomputable def E_iShardOk : TEnv := envOf [(161, p_iin), (137, p_iWebOk), (164, p_inoAnswer), (121, p_iAnswerOk), (139, p_iWebLabels), (165, p_isameInts)]
noncomputable def f_iShardOk (n : Nat) : (Int × Int × List (Int × Int × Int × Bool) × Int × Bool × List (Int × Int) × List (Int)) → Option ((Bool) × Unit) := runFn n E_iShardOk c_iShardOk [[.i .i64, .i .i64, .sl [.i .i64, .i .i64, .i .i64, .b], .i .i64, .b, .sl [.i .i64, .i .i64], .sl [.i .i64]]] [.b] [] [2] .no
noncomputable def g_iShardOk := f_iShardOk BIG
noncomputable def p_iShardOk : TSp := ⟨s_iShardOk, [[.i .i64, .i .i64, .sl [.i .i64, .i .i64, .i .i64, .b], .i .i64, .b, .sl [.i .i64, .i .i64], .sl [.i .i64]]], [.b], [], Ou.j .no, g_iShardOk⟩
theorem k_iShardOk : chkW PG E_iShardOk 31 s_iShardOk (c_iShardOk.ht 33) .no = some (c_iShardOk.wc E_iShardOk, [2]) := by kernel_rfl
theorem ok_iShardOk : p_iShardOk.Ok PG 31 := mkOk (env_cons ok_iin (env_cons ok_iWebOk (env_cons ok_inoAnswer (env_cons ok_iAnswerOk (env_cons ok_iWebLabels (env_cons ok_isameInts (env_nil PG))))))) k_iShardOk (by kernel_rfl)
theorem e_iShardOk (n : Nat) (a0 : Int × Int × List (Int × Int × Int × Bool) × Int × Bool × List (Int × Int) × List (Int)) : f_iShardOk n a0 =
  Option.bind (Option.bind (g_iin (a0.1, (1 : Int), (3 : Int))) fun r0 =>
   bif !r0.1 then
    some true
   else Option.bind (g_iWebOk (a0.2.1, a0.2.2.1)) fun r1 =>
   some !r1.1 : Option (Bool)) fun x2 =>
  bif x2 then
   some (false, ())
  else Option.bind (Option.bind (g_inoAnswer a0.2.2.2) fun r3 =>
   bif r3.1 then
    some true
   else Option.bind (g_iAnswerOk (a0.2.1, a0.2.2.2)) fun r4 =>
   bif r4.1 then
    Option.bind (g_iWebLabels (a0.2.1, a0.2.2.1)) fun r5 =>
    Option.bind (g_isameInts (a0.2.2.2.2.2.2, r5.1)) fun r6 =>
    some r6.1
   else some false : Option (Bool)) fun x7 =>
  some (x7, ()) := by kernel_rfl
/- impl.Owned -/
def c_iOwned : TC :=
 (.seq (.rg [o1 1 (.a (.t 0)),
   o1 2 (.lit [.sl [.i .i64, .i .i64]] [.slice none 0 0])])
 (.seq (.rg [o1 3 (.idx .nil),
   o1 4 (.load 1 [] 1 (.t 3) 2 false),
   o3 5 131 [.t 4],
   ⟨false, [], [], .det 2 (.ext 5 1 1), [6, 5], (some 6), none⟩,
   ⟨false, [], [], .det 2 (.copy 6), [2, 6], (some 2), none⟩])
 .ret))
def s_iOwned : Sig := ⟨[.rd true [.d, .d, .sl (.own none) [.d, .d, .d, .d], .d, .d, .sl (.own none) [.d, .d], .sl (.own none) [.d]]], (.one false [.sl (.own none) [.d, .d]])⟩
noncomputable def E_iOwned : TEnv := envOf [(131, p_iGraphOf)]
noncomputable def f_iOwned (n : Nat) : (Int × Int × List (Int × Int × Int × Bool) × Int × Bool × List (Int × Int) × List (Int)) → Option ((List (Int × Int)) × Unit) := runFn n E_iOwned c_iOwned [[.i .i64, .i .i64, .sl [.i .i64, .i .i64, .i .i64, .b], .i .i64, .b, .sl [.i .i64, .i .i64], .sl [.i .i64]]] [.sl [.i .i64, .i .i64]] [] [2] .no
noncomputable def g_iOwned := f_iOwned BIG
noncomputable def p_iOwned : TSp := ⟨s_iOwned, [[.i .i64, .i .i64, .sl [.i .i64, .i .i64, .i .i64, .b], .i .i64, .b, .sl [.i .i64, .i .i64], .sl [.i .i64]]], [.sl [.i .i64, .i .i64]], [], Ou.j .no, g_iOwned⟩
theorem k_iOwned : chkW PG E_iOwned 32 s_iOwned (c_iOwned.ht 7) .no = some (c_iOwned.wc E_iOwned, [2]) := by kernel_rfl
theorem ok_iOwned : p_iOwned.Ok PG 32 := mkOk (env_cons ok_iGraphOf (env_nil PG)) k_iOwned (by kernel_rfl)
theorem e_iOwned (n : Nat) (a0 : Int × Int × List (Int × Int × Int × Bool) × Int × Bool × List (Int × Int) × List (Int)) : f_iOwned n a0 =
  Option.bind (g_iGraphOf (a0.2.1, a0.2.2.1)) fun r0 =>
  some (r0.1.2, ()) := by kernel_rfl
/- laws.FnShardNew -/
def c_lFnShardNew : TC :=
 (.seq (.rg [o1 2 (.lit [.b] [.bool false])])
 (.seq (.seq (.rg [o1 9 (.copy 0),
   o3 10 27 [.t 9]])
 (.cond (.t 10)
  (.seq (.rg [o1 2 (.lit [.b] [.bool true])])
  .ret)
  .skip))
 (.seq (.rg [o1 12 (.copy 0),
   o3 13 28 [.t 12],
   ⟨false, [], [], .det 2 (.copy 13), [11, 13], (some 11), none⟩,
   o1 14 (.ext 11 0 1),
   o1 15 (.ext 11 1 1),
   o1 3 (.copy 14),
   o1 4 (.copy 15)])
 (.seq (.rg [o1 17 (.copy 3),
   o1 18 (.copy 4),
   o3 19 29 [.t 17, .t 18],
   ⟨false, [], [], .det 2 (.copy 19), [16, 19], (some 16), none⟩,
   ⟨false, [], [], .det 2 (.ext 16 0 7), [20, 16], (some 20), none⟩,
   o1 21 (.ext 16 7 1),
   ⟨false, [], [], .det 2 (.a (.c [.i .i64, .i .i64, .sl [.i .i64, .i .i64, .i .i64, .b], .i .i64, .b, .sl [.i .i64, .i .i64], .sl [.i .i64]] [.int .i64 (0), .int .i64 (0), .slice none 0 0, .int .i64 (0), .bool false, .slice none 0 0, .slice none 0 0])), [5, 1000000001], (some 5), none⟩,
   o4 2 [5, 20] (.store 5 [] 0 .nil (.t 20)),
   o1 6 (.copy 21)])
 (.seq (.rg [o1 23 (.copy 3),
   o1 24 (.copy 4),
   o3 25 30 [.t 23, .t 24],
   ⟨false, [], [], .det 2 (.copy 25), [22, 25], (some 22), none⟩,
   ⟨false, [], [], .det 2 (.ext 22 0 7), [26, 22], (some 26), none⟩,
   o1 27 (.ext 22 7 1),
   ⟨false, [], [], .det 2 (.a (.c [.i .i64, .i .i64, .sl [.i .i64, .i .i64, .i .i64, .b], .i .i64, .b, .sl [.i .i64, .i .i64], .sl [.i .i64]] [.int .i64 (0), .int .i64 (0), .slice none 0 0, .int .i64 (0), .bool false, .slice none 0 0, .slice none 0 0])), [7, 1000000001], (some 7), none⟩,
   o4 2 [7, 26] (.store 7 [] 0 .nil (.t 26)),
   o1 8 (.copy 27)])
 (.seq (.seq (.rg [o1 28 (.copy 6),
   o1 29 (.copy 8),
   o1 30 (.data (.beq true) [.t 28, .t 29])])
 (.cond (.t 30)
  (.seq (.rg [o1 2 (.lit [.b] [.bool false])])
  .ret)
  .skip))
 (.seq (.seq (.rg [o1 31 (.copy 6),
   o1 32 (.data .not [.t 31])])
 (.cond (.t 32)
  (.seq (.rg [o1 33 (.idx .nil),
    o1 34 (.load 5 [] 0 (.t 33) 1 false),
    o1 35 (.data (.bin .eql) [.t 34, .c (.int .i64 (0))]),
    o1 2 (.copy 35)])
  .ret)
  .skip))
 (.seq (.join [⟨2, [.b], false⟩] 72057525318451204 none (.rg [o1 36 (.load 5 [] 0 .nil 7 true),
   o3 37 31 [.t 36],
   o1 38 (.copy 37),
   o2 39 (.load 5 [] 0 .nil 7 true) 2 true,
   ⟨false, [], [], .call 1 32 [.t 39] .no, [40], (some 40), some (2, true)⟩,
   o2 41 (.len 40) 2 true,
   o2 42 (.data (.bin .eql) [.t 41, .c (.int .i64 (0))]) 2 true,
   ⟨false, [], [], .pick 38 (.t 42) (.c (.bool false)), [43], (some 43), none⟩,
   o1 44 (.copy 43),
   o2 45 (.idx .nil) 8 true,
   o2 46 (.idx (.t 45)) 8 true,
   o2 47 (.load 5 [] 3 (.t 46) 1 false) 8 true,
   o2 48 (.data (.bin .eql) [.t 47, .c (.int .i64 (0))]) 8 true,
   ⟨false, [], [], .pick 44 (.t 48) (.c (.bool false)), [49], (some 49), none⟩,
   o1 50 (.copy 49),
   o2 51 (.idx .nil) 14 true,
   o2 52 (.load 5 [] 0 (.t 51) 1 false) 14 true,
   o2 53 (.copy 3) 14 true,
   o2 54 (.data (.bin .eql) [.t 52, .t 53]) 14 true,
   ⟨false, [], [], .pick 50 (.t 54) (.c (.bool false)), [55], (some 55), none⟩,
   o1 2 (.copy 55)]))
 .ret))))))))
def s_lFnShardNew : Sig := ⟨[.rd false [.sl (.own none) [.d]]], (.one false [.d])⟩
noncomputable def E_lFnShardNew : TEnv := envOf [(27, p_lbig), (28, p_sDrawShardNew), (29, p_iShardNew), (30, p_sShardNew), (31, p_iShardOk), (32, p_iOwned)]
noncomputable def f_lFnShardNew (n : Nat) : List (Int) → Option ((Bool) × Unit) := runFn n E_lFnShardNew c_lFnShardNew [[.sl [.i .u8]]] [.b] [] [2] .no
noncomputable def g_lFnShardNew := f_lFnShardNew BIG
noncomputable def p_lFnShardNew : TSp := ⟨s_lFnShardNew, [[.sl [.i .u8]]], [.b], [], Ou.j .no, g_lFnShardNew⟩
theorem k_lFnShardNew : chkW PG E_lFnShardNew 3 s_lFnShardNew (c_lFnShardNew.ht 56) .no = some (c_lFnShardNew.wc E_lFnShardNew, [2]) := by kernel_rfl
theorem ok_lFnShardNew : p_lFnShardNew.Ok PG 3 := mkOk (env_cons ok_lbig (env_cons ok_sDrawShardNew (env_cons ok_iShardNew (env_cons ok_sShardNew (env_cons ok_iShardOk (env_cons ok_iOwned (env_nil PG))))))) k_lFnShardNew (by kernel_rfl)
theorem e_lFnShardNew (n : Nat) (a0 : List (Int)) : f_lFnShardNew n a0 =
  Option.bind (g_lbig a0) fun r0 =>
  bif r0.1 then
   some (true, ())
  else Option.bind (g_sDrawShardNew a0) fun r1 =>
  Option.bind (g_iShardNew (r1.1.1, r1.1.2)) fun r2 =>
  Option.bind (g_sShardNew (r1.1.1, r1.1.2)) fun r3 =>
  bif !(r2.1.2.2.2.2.2.2.2 == r3.1.2.2.2.2.2.2.2) then
   some (false, ())
  else bif !r2.1.2.2.2.2.2.2.2 then
   some (decide (r2.1.1 = (0 : Int)), ())
  else Option.bind (Option.bind (g_iShardOk (r2.1.1, r2.1.2.1, r2.1.2.2.1, r2.1.2.2.2.1, r2.1.2.2.2.2.1, r2.1.2.2.2.2.2.1, r2.1.2.2.2.2.2.2.1)) fun r4 =>
   bif r4.1 then
    Option.bind (g_iOwned (r2.1.1, r2.1.2.1, r2.1.2.2.1, r2.1.2.2.2.1, r2.1.2.2.2.2.1, r2.1.2.2.2.2.2.1, r2.1.2.2.2.2.2.2.1)) fun r5 =>
    bif decide ((r5.1.length : Int) = (0 : Int)) then
     bif decide (r2.1.2.2.2.1 = (0 : Int)) then
      some (decide (r2.1.1 = r1.1.1))
     else some false
    else some false
   else some false : Option (Bool)) fun x6 =>
  some (x6, ()) := by kernel_rfl
end Go.Fw
