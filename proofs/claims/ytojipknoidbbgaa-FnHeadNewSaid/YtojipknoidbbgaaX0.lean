/- The given functions, as what they compute; each is shown to be what the code does. No conditions. -/
import Derived.Test.YtojipknoidbbgaaG5
import Derived.Test.YtojipknoidbbgaaProg
set_option linter.unusedVariables false
set_option linter.unusedSimpArgs false
namespace Go.Fw
noncomputable abbrev PG := Go.Proofs.Try.prog
def o2 (d : Nat) (e : ED) (j : Nat) (b : Bool) : TO := ⟨false, [], [], .det 1 e, [d], some d, some (j, b)⟩
def o3 (d : Nat) (K : FuncId) (gets : List OY) : TO := ⟨false, [], [], .call 1 K gets .no, [d], some d, none⟩
def o4 (n : Nat) (ds : List Nat) (e : ED) : TO := ⟨false, [], [], .det n e, ds, none, none⟩
end Go.Fw
namespace Go.Fw
/- laws.big -/
def c_lbig : TC :=
 (.seq (.rg [o1 2 (.lit [.b] [.bool false])])
 (.seq (.rg [o1 3 (.copy 0),
   o1 4 (.len 3),
   o1 5 (.data (.bin .gtr) [.t 4, .c (.int .i64 (1048576))]),
   o1 2 (.copy 5)])
 .ret))
def s_lbig : Sig := ⟨[.rd false [.sl (.own none) [.d]]], (.one false [.d])⟩
noncomputable def E_lbig : TEnv := envOf []
noncomputable def f_lbig (n : Nat) : List (Int) → Option ((Bool) × Unit) := runFn n E_lbig c_lbig [[.sl [.i .u8]]] [.b] [] [2] .no
noncomputable def g_lbig := f_lbig BIG
noncomputable def p_lbig : TSp := ⟨s_lbig, [[.sl [.i .u8]]], [.b], [], Ou.j .no, g_lbig⟩
theorem k_lbig : chkW PG E_lbig 17 s_lbig (c_lbig.ht 6) .no = some (c_lbig.wc E_lbig, [2]) := by kernel_rfl
theorem ok_lbig : p_lbig.Ok PG 17 := mkOk (env_nil PG) k_lbig (by kernel_rfl)
theorem e_lbig (n : Nat) (a0 : List (Int)) : f_lbig n a0 =
  some (decide ((1048576 : Int) < (a0.length : Int)), ()) := by kernel_rfl
/- spec.l01New -/
def c_sl01New : TC :=
 (.seq (.rg [o1 2 (.nl)])
 (.seq (.rg [o1 5 (.copy 0),
   o1 6 (.len 5),
   o1 7 (.data (.bin .add) [.c (.int .i64 (13501)), .t 6]),
   o1 3 (.copy 7)])
 (.seq (.join [⟨3, [.i .i64], false⟩] 268435224 none (.seq (.rg [o1 4 (.lit [.i .i64] [.int .i64 (0)])])
 (.block 0 (.loop [⟨3, [.i .i64], false⟩, ⟨4, [.i .i64], false⟩] 268435224
  (.seq (.seq (.join [⟨15, [.b], false⟩] 65280 none (.rg [o1 8 (.copy 4),
    o1 9 (.copy 0),
    o1 10 (.len 9),
    o1 11 (.data (.bin .lss) [.t 8, .t 10]),
    o1 12 (.copy 11),
    o2 13 (.copy 4) 4 true,
    o2 14 (.data (.bin .lss) [.t 13, .c (.int .i64 (4000))]) 4 true,
    ⟨false, [], [], .pick 12 (.t 14) (.c (.bool false)), [15], (some 15), none⟩]))
  (.cond (.t 15)
   .skip
   (.exit 0)))
  (.seq (.block 1 (.rg [o1 18 (.copy 3),
    o1 19 (.data (.bin .mul) [.t 18, .c (.int .i64 (131))]),
    o1 20 (.copy 0),
    o1 21 (.copy 4),
    o1 22 (.index 20 (.t 21)),
    o1 23 (.load 20 [(0, 1)] 0 (.t 22) 1 false),
    o1 24 (.data (.conv .i64) [.t 23]),
    o1 25 (.data (.bin .add) [.t 19, .t 24]),
    o1 26 (.data (.bin .add) [.t 25, .c (.int .i64 (7))]),
    o1 27 (.data (.bin .and) [.t 26, .c (.int .i64 (1073741823))]),
    o1 3 (.copy 27)]))
  (.rg [o1 16 (.copy 4),
    o1 17 (.data (.bin .add) [.t 16, .c (.int .i64 (1))]),
    o1 4 (.copy 17)])))))))
 (.seq (.rg [o1 28 (.copy 0),
   o1 29 (.copy 3),
   o1 30 (.build [.sl [.i .u8], .i .i64, .i .i64] [(0, .t 28), (2, .t 29)]),
   o1 31 (.a (.t 30)),
   ⟨true, [], [], .det 2 (.copy 31), [2, 31], (some 2), none⟩])
 .ret))))
def s_sl01New : Sig := ⟨[.rd false [.sl (.own none) [.d]]], (.bx [.sl (.ro [0]) [.d], .d, .d])⟩
noncomputable def E_sl01New : TEnv := envOf []
noncomputable def f_sl01New (n : Nat) : List (Int) → Option ((List (Int) × Int × Int) × Unit) := runFn n E_sl01New c_sl01New [[.sl [.i .u8]]] [.sl [.i .u8], .i .i64, .i .i64] [] [2] .no
noncomputable def g_sl01New := f_sl01New BIG
noncomputable def p_sl01New : TSp := ⟨s_sl01New, [[.sl [.i .u8]]], [.sl [.i .u8], .i .i64, .i .i64], [], Ou.j .no, g_sl01New⟩
theorem k_sl01New : chkW PG E_sl01New 90 s_sl01New (c_sl01New.ht 32) .no = some (c_sl01New.wc E_sl01New, [2]) := by kernel_rfl
theorem ok_sl01New : p_sl01New.Ok PG 90 := mkOk (env_nil PG) k_sl01New (by kernel_rfl)
theorem e_sl01New (n : Nat) (a0 : List (Int)) : f_sl01New n a0 =
  Option.bind (loopT n (X := Int × Int) (B := Int) (fun self1 x0 =>
    Option.bind (bif decide (x0.2 < (a0.length : Int)) then
      some (decide (x0.2 < (4000 : Int)))
     else some false : Option (Bool)) fun x2 =>
    bif x2 then
     bnd a0.length x0.2 fun n3 =>
     Option.bind a0[n3]? fun y4 =>
     self1 (bits .and .i64 (IntKind.wrap .i64 ((IntKind.wrap .i64 ((IntKind.wrap .i64 (x0.1 * (131 : Int))) + (IntKind.wrap .i64 (y4)))) + (7 : Int))) (1073741823 : Int), IntKind.wrap .i64 (x0.2 + (1 : Int)))
    else some x0.1) (IntKind.wrap .i64 ((13501 : Int) + (a0.length : Int)), (0 : Int)) : Option (Int)) fun x5 =>
  some ((a0, (0 : Int), x5), ()) := by kernel_rfl
/- spec.l01Byte -/
def c_sl01Byte : TC :=
 (.seq (.rg [o1 2 (.lit [.i .i64] [.int .i64 (0)])])
 (.seq (.rg [o1 4 (.p0),
   o1 5 (.p0),
   o1 6 (.same 5),
   o1 7 (.idx (.t 6)),
   o1 8 (.load 0 [] 2 (.t 7) 1 false),
   o1 9 (.data (.bin .mul) [.t 8, .c (.int .i64 (6364136223846793005))]),
   o1 10 (.data (.bin .add) [.t 9, .c (.int .i64 (1442695040888963407))]),
   o1 11 (.same 4),
   o1 12 (.idx (.t 11)),
   o4 1 [0] (.store 0 [] 2 (.t 12) (.t 10))])
 (.seq (.rg [o1 13 (.p0),
   o1 14 (.same 13),
   o1 15 (.idx (.t 14)),
   o1 16 (.load 0 [] 2 (.t 15) 1 false),
   o1 17 (.data (.bin .shr) [.t 16, .c (.int .u64 (33))]),
   o1 18 (.p0),
   o1 19 (.same 18),
   o1 20 (.idx (.t 19)),
   o1 21 (.load 0 [] 2 (.t 20) 1 false),
   o1 22 (.data (.bin .shr) [.t 21, .c (.int .u64 (45))]),
   o1 23 (.data (.bin .xor) [.t 17, .t 22]),
   o1 24 (.data (.bin .and) [.t 23, .c (.int .i64 (255))]),
   o1 3 (.copy 24)])
 (.seq (.join [⟨3, [.i .i64], false⟩, ⟨0, [.sl [.i .u8], .i .i64, .i .i64], false⟩] 144115188042301449 none (.seq (.rg [o1 25 (.p0),
   o1 26 (.same 25),
   o1 27 (.idx (.t 26)),
   o1 28 (.load 0 [] 1 (.t 27) 1 false),
   o1 29 (.p0),
   o1 30 (.same 29),
   o1 31 (.idx (.t 30)),
   o1 32 (.load 0 [] 0 (.t 31) 1 false),
   o1 33 (.len 32),
   o1 34 (.data (.bin .lss) [.t 28, .t 33])])
 (.cond (.t 34)
  (.seq (.rg [o1 35 (.copy 3),
    o1 36 (.p0),
    o1 37 (.same 36),
    o1 38 (.idx (.t 37)),
    o1 39 (.load 0 [] 0 (.t 38) 1 false),
    o1 40 (.p0),
    o1 41 (.same 40),
    o1 42 (.idx (.t 41)),
    o1 43 (.load 0 [] 1 (.t 42) 1 false),
    o1 44 (.index 39 (.t 43)),
    o1 45 (.load 39 [(0, 1)] 0 (.t 44) 1 false),
    o1 46 (.data (.conv .i64) [.t 45]),
    o1 47 (.data (.bin .add) [.t 35, .t 46]),
    o1 48 (.data (.bin .and) [.t 47, .c (.int .i64 (255))]),
    o1 3 (.copy 48)])
  (.rg [o1 49 (.p0),
    o1 50 (.p0),
    o1 51 (.same 50),
    o1 52 (.idx (.t 51)),
    o1 53 (.load 0 [] 1 (.t 52) 1 false),
    o1 54 (.data (.bin .add) [.t 53, .c (.int .i64 (1))]),
    o1 55 (.same 49),
    o1 56 (.idx (.t 55)),
    o4 1 [0] (.store 0 [] 1 (.t 56) (.t 54))]))
  .skip)))
 (.seq (.rg [o1 57 (.copy 3),
   o1 2 (.copy 57)])
 .ret)))))
def s_sl01Byte : Sig := ⟨[.mp [.sl (.ro []) [.d], .d, .d]], (.one false [.d])⟩
noncomputable def E_sl01Byte : TEnv := envOf []
noncomputable def f_sl01Byte (n : Nat) : (List (Int) × Int × Int) → Option ((Int) × List (Int) × Int × Int) := runFn n E_sl01Byte c_sl01Byte [[.sl [.i .u8], .i .i64, .i .i64]] [.i .i64] [.sl [.i .u8], .i .i64, .i .i64] [2] (.mp 0)
noncomputable def g_sl01Byte := f_sl01Byte BIG
noncomputable def p_sl01Byte : TSp := ⟨s_sl01Byte, [[.sl [.i .u8], .i .i64, .i .i64]], [.i .i64], [.sl [.i .u8], .i .i64, .i .i64], Ou.j (.mp 0), g_sl01Byte⟩
theorem k_sl01Byte : chkW PG E_sl01Byte 103 s_sl01Byte (c_sl01Byte.ht 58) (.mp 0) = some (c_sl01Byte.wc E_sl01Byte, [2]) := by kernel_rfl
theorem ok_sl01Byte : p_sl01Byte.Ok PG 103 := mkOk (env_nil PG) k_sl01Byte (by kernel_rfl)
theorem e_sl01Byte (n : Nat) (a0 : List (Int) × Int × Int) : f_sl01Byte n a0 =
  bif decide ((33 : Int) < 0) then
   none
  else bif decide ((45 : Int) < 0) then
   none
  else Option.bind (bif decide (a0.2.1 < (a0.1.length : Int)) then
    bnd a0.1.length a0.2.1 fun n0 =>
    Option.bind a0.1[n0]? fun y1 =>
    some (bits .and .i64 (IntKind.wrap .i64 ((bits .and .i64 (bits .xor .i64 (Int.fdiv (IntKind.wrap .i64 ((IntKind.wrap .i64 (a0.2.2 * (6364136223846793005 : Int))) + (1442695040888963407 : Int))) (2 ^ (Nat.min (Int.toNat (33 : Int)) (IntKind.bits .i64)))) (Int.fdiv (IntKind.wrap .i64 ((IntKind.wrap .i64 (a0.2.2 * (6364136223846793005 : Int))) + (1442695040888963407 : Int))) (2 ^ (Nat.min (Int.toNat (45 : Int)) (IntKind.bits .i64))))) (255 : Int)) + (IntKind.wrap .i64 (y1)))) (255 : Int), (a0.1, IntKind.wrap .i64 (a0.2.1 + (1 : Int)), IntKind.wrap .i64 ((IntKind.wrap .i64 (a0.2.2 * (6364136223846793005 : Int))) + (1442695040888963407 : Int))))
   else some (bits .and .i64 (bits .xor .i64 (Int.fdiv (IntKind.wrap .i64 ((IntKind.wrap .i64 (a0.2.2 * (6364136223846793005 : Int))) + (1442695040888963407 : Int))) (2 ^ (Nat.min (Int.toNat (33 : Int)) (IntKind.bits .i64)))) (Int.fdiv (IntKind.wrap .i64 ((IntKind.wrap .i64 (a0.2.2 * (6364136223846793005 : Int))) + (1442695040888963407 : Int))) (2 ^ (Nat.min (Int.toNat (45 : Int)) (IntKind.bits .i64))))) (255 : Int), (a0.1, a0.2.1, IntKind.wrap .i64 ((IntKind.wrap .i64 (a0.2.2 * (6364136223846793005 : Int))) + (1442695040888963407 : Int)))) : Option (Int × (List (Int) × Int × Int))) fun x2 =>
  some (x2.1, x2.2) := by kernel_rfl
/- spec.l01Below -/
def c_sl01Below : TC :=
 (.seq (.rg [o1 4 (.lit [.i .i64] [.int .i64 (0)])])
 (.seq (.seq (.rg [o1 9 (.copy 1),
   o1 10 (.data (.bin .leq) [.t 9, .c (.int .i64 (0))])])
 (.cond (.t 10)
  (.seq (.rg [o1 4 (.lit [.i .i64] [.int .i64 (0)])])
  .ret)
  .skip))
 (.seq (.seq (.rg [o1 11 (.copy 1),
   o1 12 (.data (.bin .leq) [.t 11, .c (.int .i64 (256))])])
 (.cond (.t 12)
  (.seq (.rg [o1 13 (.p0),
    ⟨false, [], [], .call 2 103 [.t 0] (.mp 0), [14, 0], (some 14), none⟩,
    o1 15 (.copy 1),
    o1 16 (.data (.bin .rem) [.t 14, .t 15]),
    o1 4 (.copy 16)])
  .ret)
  .skip))
 (.seq (.rg [o1 17 (.p0),
   ⟨false, [], [], .call 2 103 [.t 0] (.mp 0), [18, 0], (some 18), none⟩,
   o1 5 (.copy 18)])
 (.seq (.rg [o1 19 (.p0),
   ⟨false, [], [], .call 2 103 [.t 0] (.mp 0), [20, 0], (some 20), none⟩,
   o1 6 (.copy 20)])
 (.seq (.rg [o1 21 (.p0),
   ⟨false, [], [], .call 2 103 [.t 0] (.mp 0), [22, 0], (some 22), none⟩,
   o1 7 (.copy 22)])
 (.seq (.rg [o1 23 (.p0),
   ⟨false, [], [], .call 2 103 [.t 0] (.mp 0), [24, 0], (some 24), none⟩,
   o1 8 (.copy 24)])
 (.seq (.rg [o1 25 (.copy 5),
   o1 26 (.data (.bin .mul) [.t 25, .c (.int .i64 (16777216))]),
   o1 27 (.copy 6),
   o1 28 (.data (.bin .mul) [.t 27, .c (.int .i64 (65536))]),
   o1 29 (.data (.bin .add) [.t 26, .t 28]),
   o1 30 (.copy 7),
   o1 31 (.data (.bin .mul) [.t 30, .c (.int .i64 (256))]),
   o1 32 (.data (.bin .add) [.t 29, .t 31]),
   o1 33 (.copy 8),
   o1 34 (.data (.bin .add) [.t 32, .t 33]),
   o1 35 (.copy 1),
   o1 36 (.data (.bin .rem) [.t 34, .t 35]),
   o1 4 (.copy 36)])
 .ret))))))))
def s_sl01Below : Sig := ⟨[.mp [.sl (.ro []) [.d], .d, .d], .rd false [.d]], (.one false [.d])⟩
noncomputable def E_sl01Below : TEnv := envOf [(103, p_sl01Byte)]
noncomputable def f_sl01Below (n : Nat) : (List (Int) × Int × Int) × Int → Option ((Int) × List (Int) × Int × Int) := runFn n E_sl01Below c_sl01Below [[.sl [.i .u8], .i .i64, .i .i64], [.i .i64]] [.i .i64] [.sl [.i .u8], .i .i64, .i .i64] [4] (.mp 0)
noncomputable def g_sl01Below := f_sl01Below BIG
noncomputable def p_sl01Below : TSp := ⟨s_sl01Below, [[.sl [.i .u8], .i .i64, .i .i64], [.i .i64]], [.i .i64], [.sl [.i .u8], .i .i64, .i .i64], Ou.j (.mp 0), g_sl01Below⟩
theorem k_sl01Below : chkW PG E_sl01Below 92 s_sl01Below (c_sl01Below.ht 37) (.mp 0) = some (c_sl01Below.wc E_sl01Below, [4]) := by kernel_rfl
theorem ok_sl01Below : p_sl01Below.Ok PG 92 := mkOk (env_cons ok_sl01Byte (env_nil PG)) k_sl01Below (by kernel_rfl)
theorem e_sl01Below (n : Nat) (a0 : List (Int) × Int × Int) (a1 : Int) : f_sl01Below n (a0, a1) =
  bif decide (a1 ≤ (0 : Int)) then
   some ((0 : Int), a0)
  else bif decide (a1 ≤ (256 : Int)) then
   Option.bind (g_sl01Byte a0) fun r0 =>
   bif decide (a1 = 0) then
    none
   else some (Int.tmod r0.1 a1, r0.2)
  else Option.bind (g_sl01Byte a0) fun r1 =>
  Option.bind (g_sl01Byte r1.2) fun r2 =>
  Option.bind (g_sl01Byte r2.2) fun r3 =>
  Option.bind (g_sl01Byte r3.2) fun r4 =>
  bif decide (a1 = 0) then
   none
  else some (Int.tmod (IntKind.wrap .i64 ((IntKind.wrap .i64 ((IntKind.wrap .i64 ((IntKind.wrap .i64 (r1.1 * (16777216 : Int))) + (IntKind.wrap .i64 (r2.1 * (65536 : Int))))) + (IntKind.wrap .i64 (r3.1 * (256 : Int))))) + r4.1)) a1, r4.2) := by kernel_rfl
/- spec.l01Once -/
def c_sl01Once : TC :=
 (.seq (.rg [o1 4 (.lit [.b] [.bool false])])
 (.seq (.rg [o1 5 (.p0),
   o1 6 (.copy 1),
   ⟨false, [], [], .call 2 92 [.t 0, .t 6] (.mp 0), [7, 0], (some 7), none⟩,
   o1 8 (.data (.bin .eql) [.t 7, .c (.int .i64 (0))]),
   o1 4 (.copy 8)])
 .ret))
def s_sl01Once : Sig := ⟨[.mp [.sl (.ro []) [.d], .d, .d], .rd false [.d]], (.one false [.d])⟩
noncomputable def E_sl01Once : TEnv := envOf [(92, p_sl01Below)]
noncomputable def f_sl01Once (n : Nat) : (List (Int) × Int × Int) × Int → Option ((Bool) × List (Int) × Int × Int) := runFn n E_sl01Once c_sl01Once [[.sl [.i .u8], .i .i64, .i .i64], [.i .i64]] [.b] [.sl [.i .u8], .i .i64, .i .i64] [4] (.mp 0)
noncomputable def g_sl01Once := f_sl01Once BIG
noncomputable def p_sl01Once : TSp := ⟨s_sl01Once, [[.sl [.i .u8], .i .i64, .i .i64], [.i .i64]], [.b], [.sl [.i .u8], .i .i64, .i .i64], Ou.j (.mp 0), g_sl01Once⟩
theorem k_sl01Once : chkW PG E_sl01Once 94 s_sl01Once (c_sl01Once.ht 9) (.mp 0) = some (c_sl01Once.wc E_sl01Once, [4]) := by kernel_rfl
theorem ok_sl01Once : p_sl01Once.Ok PG 94 := mkOk (env_cons ok_sl01Below (env_nil PG)) k_sl01Once (by kernel_rfl)
theorem e_sl01Once (n : Nat) (a0 : List (Int) × Int × Int) (a1 : Int) : f_sl01Once n (a0, a1) =
  Option.bind (g_sl01Below (a0, a1)) fun r0 =>
  some (decide (r0.1 = (0 : Int)), r0.2) := by kernel_rfl
/- spec.l01PickInt -/
def c_sl01PickInt : TC :=
 (.seq (.rg [o1 4 (.lit [.i .i64] [.int .i64 (0)])])
 (.seq (.rg [o1 5 (.copy 1),
   o1 6 (.p0),
   o1 7 (.copy 1),
   o1 8 (.len 7),
   ⟨false, [], [], .call 2 92 [.t 0, .t 8] (.mp 0), [9, 0], (some 9), none⟩,
   o1 10 (.index 5 (.t 9)),
   o1 11 (.load 5 [(0, 1)] 0 (.t 10) 1 false),
   o1 4 (.copy 11)])
 .ret))
def s_sl01PickInt : Sig := ⟨[.mp [.sl (.ro []) [.d], .d, .d], .rd false [.sl (.own none) [.d]]], (.one false [.d])⟩
noncomputable def E_sl01PickInt : TEnv := envOf [(92, p_sl01Below)]
noncomputable def f_sl01PickInt (n : Nat) : (List (Int) × Int × Int) × List (Int) → Option ((Int) × List (Int) × Int × Int) := runFn n E_sl01PickInt c_sl01PickInt [[.sl [.i .u8], .i .i64, .i .i64], [.sl [.i .i64]]] [.i .i64] [.sl [.i .u8], .i .i64, .i .i64] [4] (.mp 0)
noncomputable def g_sl01PickInt := f_sl01PickInt BIG
noncomputable def p_sl01PickInt : TSp := ⟨s_sl01PickInt, [[.sl [.i .u8], .i .i64, .i .i64], [.sl [.i .i64]]], [.i .i64], [.sl [.i .u8], .i .i64, .i .i64], Ou.j (.mp 0), g_sl01PickInt⟩
theorem k_sl01PickInt : chkW PG E_sl01PickInt 229 s_sl01PickInt (c_sl01PickInt.ht 12) (.mp 0) = some (c_sl01PickInt.wc E_sl01PickInt, [4]) := by kernel_rfl
theorem ok_sl01PickInt : p_sl01PickInt.Ok PG 229 := mkOk (env_cons ok_sl01Below (env_nil PG)) k_sl01PickInt (by kernel_rfl)
theorem e_sl01PickInt (n : Nat) (a0 : List (Int) × Int × Int) (a1 : List (Int)) : f_sl01PickInt n (a0, a1) =
  Option.bind (g_sl01Below (a0, (a1.length : Int))) fun r0 =>
  bnd a1.length r0.1 fun n1 =>
  Option.bind a1[n1]? fun y2 =>
  some (y2, r0.2) := by kernel_rfl
/- spec.l01Place -/
def c_sl01Place : TC :=
 (.seq (.rg [o1 4 (.lit [.i .i64] [.int .i64 (0)])])
 (.seq (.seq (.rg [o1 5 (.p0),
   ⟨false, [], [], .call 2 94 [.t 0, .c [.i .i64] [.int .i64 (15)]] (.mp 0), [6, 0], (some 6), none⟩])
 (.cond (.t 6)
  (.seq (.rg [o1 7 (.p0),
    o1 8 (.copy 1),
    o1 9 (.copy 1),
    o1 10 (.data (.bin .add) [.t 9, .c (.int .i64 (1))]),
    ⟨false, [], [], .det 4 (.sli [.i .i64] [.c [.i .i64] [.int .i64 (-1)], .t 8, .t 10, .c [.i .i64] [.int .i64 (9223372036854775807)], .c [.i .i64] [.int .i64 (-9223372036854775808)]]), [11, 1000000001, 1000000004, 1000000005], (some 11), none⟩,
    ⟨false, [], [], .call 2 229 [.t 0, .t 11] (.mp 0), [12, 0], (some 12), none⟩,
    o1 4 (.copy 12)])
  .ret)
  .skip))
 (.seq (.rg [o1 13 (.p0),
   o1 14 (.copy 1),
   ⟨false, [], [], .call 2 92 [.t 0, .t 14] (.mp 0), [15, 0], (some 15), none⟩,
   o1 4 (.copy 15)])
 .ret)))
def s_sl01Place : Sig := ⟨[.mp [.sl (.ro []) [.d], .d, .d], .rd false [.d]], (.one false [.d])⟩
noncomputable def E_sl01Place : TEnv := envOf [(94, p_sl01Once), (229, p_sl01PickInt), (92, p_sl01Below)]
noncomputable def f_sl01Place (n : Nat) : (List (Int) × Int × Int) × Int → Option ((Int) × List (Int) × Int × Int) := runFn n E_sl01Place c_sl01Place [[.sl [.i .u8], .i .i64, .i .i64], [.i .i64]] [.i .i64] [.sl [.i .u8], .i .i64, .i .i64] [4] (.mp 0)
noncomputable def g_sl01Place := f_sl01Place BIG
noncomputable def p_sl01Place : TSp := ⟨s_sl01Place, [[.sl [.i .u8], .i .i64, .i .i64], [.i .i64]], [.i .i64], [.sl [.i .u8], .i .i64, .i .i64], Ou.j (.mp 0), g_sl01Place⟩
theorem k_sl01Place : chkW PG E_sl01Place 96 s_sl01Place (c_sl01Place.ht 16) (.mp 0) = some (c_sl01Place.wc E_sl01Place, [4]) := by kernel_rfl
theorem ok_sl01Place : p_sl01Place.Ok PG 96 := mkOk (env_cons ok_sl01Once (env_cons ok_sl01PickInt (env_cons ok_sl01Below (env_nil PG)))) k_sl01Place (by kernel_rfl)
theorem e_sl01Place (n : Nat) (a0 : List (Int) × Int × Int) (a1 : Int) : f_sl01Place n (a0, a1) =
  Option.bind (g_sl01Once (a0, (15 : Int))) fun r0 =>
  bif r0.1 then
   Option.bind (g_sl01PickInt (r0.2, [(-1 : Int), a1, IntKind.wrap .i64 (a1 + (1 : Int)), (9223372036854775807 : Int), (-9223372036854775808 : Int)])) fun r1 =>
   some (r1.1, r1.2)
  else Option.bind (g_sl01Below (r0.2, a1)) fun r2 =>
  some (r2.1, r2.2) := by kernel_rfl
/- spec.DrawHeadNew -/
def c_sDrawHeadNew : TC :=
 (.seq (.rg [o1 2 (.lit [.i .i64] [.int .i64 (0)]),
   o1 3 (.lit [.i .i64] [.int .i64 (0)])])
 (.seq (.rg [o1 5 (.copy 0),
   o3 6 90 [.t 5],
   o1 4 (.p0)])
 (.seq (.rg [o1 7 (.same 4),
   ⟨false, [], [], .call 2 96 [.t 6, .c [.i .i64] [.int .i64 (13)]] (.mp 0), [8, 6], (some 8), none⟩,
   o1 9 (.same 4),
   ⟨false, [], [], .call 2 96 [.t 6, .c [.i .i64] [.int .i64 (4)]] (.mp 0), [10, 6], (some 10), none⟩,
   o1 2 (.copy 8),
   o1 3 (.copy 10)])
 .ret)))
def s_sDrawHeadNew : Sig := ⟨[.rd false [.sl (.own none) [.d]]], (.tup [(false, 1), (false, 1)] [.d, .d])⟩
noncomputable def E_sDrawHeadNew : TEnv := envOf [(90, p_sl01New), (96, p_sl01Place)]
noncomputable def f_sDrawHeadNew (n : Nat) : List (Int) → Option ((Int × Int) × Unit) := runFn n E_sDrawHeadNew c_sDrawHeadNew [[.sl [.i .u8]]] [.i .i64, .i .i64] [] [2, 3] .no
noncomputable def g_sDrawHeadNew := f_sDrawHeadNew BIG
noncomputable def p_sDrawHeadNew : TSp := ⟨s_sDrawHeadNew, [[.sl [.i .u8]]], [.i .i64, .i .i64], [], Ou.j .no, g_sDrawHeadNew⟩
theorem k_sDrawHeadNew : chkW PG E_sDrawHeadNew 42 s_sDrawHeadNew (c_sDrawHeadNew.ht 11) .no = some (c_sDrawHeadNew.wc E_sDrawHeadNew, [2, 3]) := by kernel_rfl
theorem ok_sDrawHeadNew : p_sDrawHeadNew.Ok PG 42 := mkOk (env_cons ok_sl01New (env_cons ok_sl01Place (env_nil PG))) k_sDrawHeadNew (by kernel_rfl)
theorem e_sDrawHeadNew (n : Nat) (a0 : List (Int)) : f_sDrawHeadNew n a0 =
  Option.bind (g_sl01New a0) fun r0 =>
  Option.bind (g_sl01Place (r0.1, (13 : Int))) fun r1 =>
  Option.bind (g_sl01Place (r1.2, (4 : Int))) fun r2 =>
  some ((r1.1, r2.1), ()) := by kernel_rfl
/- impl.in -/
def c_iin : TC :=
 (.seq (.rg [o1 6 (.lit [.b] [.bool false])])
 (.seq (.join [⟨6, [.b], false⟩] 32704 none (.rg [o1 7 (.copy 0),
   o1 8 (.copy 1),
   o1 9 (.data (.bin .geq) [.t 7, .t 8]),
   o1 10 (.copy 9),
   o2 11 (.copy 0) 3 true,
   o2 12 (.copy 2) 3 true,
   o2 13 (.data (.bin .leq) [.t 11, .t 12]) 3 true,
   ⟨false, [], [], .pick 10 (.t 13) (.c (.bool false)), [14], (some 14), none⟩,
   o1 6 (.copy 14)]))
 .ret))
def s_iin : Sig := ⟨[.rd false [.d], .rd false [.d], .rd false [.d]], (.one false [.d])⟩
noncomputable def E_iin : TEnv := envOf []
noncomputable def f_iin (n : Nat) : Int × Int × Int → Option ((Bool) × Unit) := runFn n E_iin c_iin [[.i .i64], [.i .i64], [.i .i64]] [.b] [] [6] .no
noncomputable def g_iin := f_iin BIG
noncomputable def p_iin : TSp := ⟨s_iin, [[.i .i64], [.i .i64], [.i .i64]], [.b], [], Ou.j .no, g_iin⟩
theorem k_iin : chkW PG E_iin 101 s_iin (c_iin.ht 15) .no = some (c_iin.wc E_iin, [6]) := by kernel_rfl
theorem ok_iin : p_iin.Ok PG 101 := mkOk (env_nil PG) k_iin (by kernel_rfl)
theorem e_iin (n : Nat) (a0 : Int) (a1 : Int) (a2 : Int) : f_iin n (a0, a1, a2) =
  Option.bind (bif decide (a1 ≤ a0) then
    some (decide (a0 ≤ a2))
   else some false : Option (Bool)) fun x0 =>
  some (x0, ()) := by kernel_rfl
/- impl.first -/
def c_ifirst : TC :=
 (.seq (.rg [o1 2 (.lit [.sl [.i .i64]] [.slice none 0 0])])
 (.seq (.rg [o1 3 (.lit [.sl [.i .i64]] [.slice none 0 0])])
 (.seq (.join [⟨3, [.sl [.i .i64]], false⟩] 16376 none (.seq (.rg [o1 5 (.copy 0),
   o1 6 (.lit [.i .i64] [.int .i64 (0)])])
 (.block 0 (.loop [⟨3, [.sl [.i .i64]], false⟩, ⟨6, [.i .i64], false⟩] 16344
  (.seq (.rg [o1 7 (.data (.bin .lss) [.t 6, .t 5])])
  (.seq (.cond (.t 7)
   .skip
   (.exit 0))
  (.seq (.block 1 (.seq (.rg [o1 8 (.copy 6),
    o1 4 (.copy 8)])
  (.rg [⟨false, [], [], .det 2 (.copy 3), [9, 3], (some 9), none⟩,
    o1 10 (.copy 4),
    o1 11 (.sli [.i .i64] [.t 10]),
    ⟨false, [], [], .det 2 (.app (some 9) 11), [12, 9], (some 12), none⟩,
    ⟨false, [], [], .det 2 (.copy 12), [3, 12], (some 3), none⟩])))
  (.rg [o1 13 (.data (.bin .add) [.t 6, .c (.int .i64 (1))]),
    o1 6 (.copy 13)]))))))))
 (.seq (.rg [⟨false, [], [], .det 2 (.copy 3), [14, 3], (some 14), none⟩,
   ⟨false, [], [], .det 2 (.copy 14), [2, 14], (some 2), none⟩])
 .ret))))
def s_ifirst : Sig := ⟨[.rd false [.d]], (.one false [.sl (.own none) [.d]])⟩
noncomputable def E_ifirst : TEnv := envOf []
noncomputable def f_ifirst (n : Nat) : Int → Option ((List (Int)) × Unit) := runFn n E_ifirst c_ifirst [[.i .i64]] [.sl [.i .i64]] [] [2] .no
noncomputable def g_ifirst := f_ifirst BIG
noncomputable def p_ifirst : TSp := ⟨s_ifirst, [[.i .i64]], [.sl [.i .i64]], [], Ou.j .no, g_ifirst⟩
theorem k_ifirst : chkW PG E_ifirst 108 s_ifirst (c_ifirst.ht 15) .no = some (c_ifirst.wc E_ifirst, [2]) := by kernel_rfl
theorem ok_ifirst : p_ifirst.Ok PG 108 := mkOk (env_nil PG) k_ifirst (by kernel_rfl)
theorem e_ifirst (n : Nat) (a0 : Int) : f_ifirst n a0 =
  Option.bind (loopT n (X := (List (Int)) × Int) (B := (List (Int))) (fun self1 x0 =>
    bif decide (x0.2 < a0) then
     bif decide (x0.1.length + [x0.2].length ≤ 4294967296) then
      self1 (x0.1 ++ [x0.2], IntKind.wrap .i64 (x0.2 + (1 : Int)))
     else none
    else some x0.1) ([], (0 : Int)) : Option ((List (Int)))) fun x2 =>
  some (x2, ()) := by kernel_rfl
/- impl.HeadNew -/
def c_iHeadNew : TC :=
 (.seq (.rg [⟨false, [], [], .det 2 (.a (.c [.i .i64, .sl [.i .i64], .sl [.i .i64, .i .i64], .sl [.sl [.i .i64]], .sl [.i .i64], .i .i64, .i .i64, .i .i64, .i .i64, .i .i64, .i .i64, .i .i64, .sl [.i .i64, .i .i64], .i .i64, .sl [.i .i64, .i .i64, .i .i64, .i .i64, .i .i64, .i .i64]] [.int .i64 (0), .slice none 0 0, .slice none 0 0, .slice none 0 0, .slice none 0 0, .int .i64 (0), .int .i64 (0), .int .i64 (0), .int .i64 (0), .int .i64 (0), .int .i64 (0), .int .i64 (0), .slice none 0 0, .int .i64 (0), .slice none 0 0])), [4, 1000000001], (some 4), none⟩,
   o1 5 (.lit [.b] [.bool false])])
 (.seq (.seq (.join [⟨15, [.b], false⟩] 65280 none (.rg [o1 8 (.copy 0),
   o3 9 101 [.t 8, .c [.i .i64] [.int .i64 (1)], .c [.i .i64] [.int .i64 (12)]],
   o1 10 (.data .not [.t 9]),
   o1 11 (.copy 10),
   o2 12 (.copy 1) 3 false,
   ⟨false, [], [], .call 1 101 [.t 12, .c [.i .i64] [.int .i64 (1)], .c [.i .i64] [.int .i64 (3)]] .no, [13], (some 13), some (3, false)⟩,
   o2 14 (.data .not [.t 13]) 3 false,
   ⟨false, [], [], .pick 11 (.c (.bool true)) (.t 14), [15], (some 15), none⟩]))
 (.cond (.t 15)
  (.seq (.rg [o1 16 (.build [.i .i64, .sl [.i .i64], .sl [.i .i64, .i .i64], .sl [.sl [.i .i64]], .sl [.i .i64], .i .i64, .i .i64, .i .i64, .i .i64, .i .i64, .i .i64, .i .i64, .sl [.i .i64, .i .i64], .i .i64, .sl [.i .i64, .i .i64, .i .i64, .i .i64, .i .i64, .i .i64]] []),
    o4 2 [4, 16] (.store 4 [] 0 .nil (.t 16)),
    o1 5 (.lit [.b] [.bool false])])
  .ret)
  .skip))
 (.seq (.rg [o1 17 (.copy 0),
   o1 18 (.build [.i .i64, .sl [.i .i64], .sl [.i .i64, .i .i64], .sl [.sl [.i .i64]], .sl [.i .i64], .i .i64, .i .i64, .i .i64, .i .i64, .i .i64, .i .i64, .i .i64, .sl [.i .i64, .i .i64], .i .i64, .sl [.i .i64, .i .i64, .i .i64, .i .i64, .i .i64, .i .i64]] [(0, .t 17)]),
   ⟨false, [], [], .det 2 (.a (.c [.i .i64, .sl [.i .i64], .sl [.i .i64, .i .i64], .sl [.sl [.i .i64]], .sl [.i .i64], .i .i64, .i .i64, .i .i64, .i .i64, .i .i64, .i .i64, .i .i64, .sl [.i .i64, .i .i64], .i .i64, .sl [.i .i64, .i .i64, .i .i64, .i .i64, .i .i64, .i .i64]] [.int .i64 (0), .slice none 0 0, .slice none 0 0, .slice none 0 0, .slice none 0 0, .int .i64 (0), .int .i64 (0), .int .i64 (0), .int .i64 (0), .int .i64 (0), .int .i64 (0), .int .i64 (0), .slice none 0 0, .int .i64 (0), .slice none 0 0])), [6, 1000000001], (some 6), none⟩,
   o4 2 [6, 18] (.store 6 [] 0 .nil (.t 18))])
 (.seq (.join [⟨6, [.i .i64, .sl [.i .i64], .sl [.i .i64, .i .i64], .sl [.sl [.i .i64]], .sl [.i .i64], .i .i64, .i .i64, .i .i64, .i .i64, .i .i64, .i .i64, .i .i64, .sl [.i .i64, .i .i64], .i .i64, .sl [.i .i64, .i .i64, .i .i64, .i .i64, .i .i64, .i .i64]], false⟩] 8589410496 none (.seq (.rg [o1 19 (.copy 0),
   o1 20 (.lit [.i .i64] [.int .i64 (0)])])
 (.block 0 (.loop [⟨6, [.i .i64, .sl [.i .i64], .sl [.i .i64, .i .i64], .sl [.sl [.i .i64]], .sl [.i .i64], .i .i64, .i .i64, .i .i64, .i .i64, .i .i64, .i .i64, .i .i64, .sl [.i .i64, .i .i64], .i .i64, .sl [.i .i64, .i .i64, .i .i64, .i .i64, .i .i64, .i .i64]], false⟩, ⟨20, [.i .i64], false⟩] 8588886208
  (.seq (.rg [o1 21 (.data (.bin .lss) [.t 20, .t 19])])
  (.seq (.cond (.t 21)
   .skip
   (.exit 0))
  (.seq (.block 1 (.seq (.rg [o1 22 (.copy 20),
    o1 7 (.copy 22)])
  (.rg [o1 23 (.idx .nil),
    o1 24 (.load 6 [] 1 (.t 23) 1 true),
    o1 25 (.copy 7),
    o1 26 (.copy 1),
    o1 27 (.data (.bin .rem) [.t 25, .t 26]),
    o1 28 (.data (.bin .add) [.c (.int .i64 (1)), .t 27]),
    o1 29 (.sli [.i .i64] [.t 28]),
    ⟨false, [24], [], .det 2 (.app (some 24) 29), [30, 24, 24, 6], (some 30), none⟩,
    o1 31 (.idx .nil),
    o4 2 [6, 30, 24] (.store 6 [] 1 (.t 31) (.t 30))])))
  (.rg [o1 32 (.data (.bin .add) [.t 20, .c (.int .i64 (1))]),
    o1 20 (.copy 32)]))))))))
 (.seq (.join [⟨6, [.i .i64, .sl [.i .i64], .sl [.i .i64, .i .i64], .sl [.sl [.i .i64]], .sl [.i .i64], .i .i64, .i .i64, .i .i64, .i .i64, .i .i64, .i .i64, .i .i64, .sl [.i .i64, .i .i64], .i .i64, .sl [.i .i64, .i .i64, .i .i64, .i .i64, .i .i64, .i .i64]], false⟩] 562941363486784 none (.seq (.rg [o1 33 (.copy 1),
   o1 34 (.lit [.i .i64] [.int .i64 (0)])])
 (.block 2 (.loop [⟨6, [.i .i64, .sl [.i .i64], .sl [.i .i64, .i .i64], .sl [.sl [.i .i64]], .sl [.i .i64], .i .i64, .i .i64, .i .i64, .i .i64, .i .i64, .i .i64, .i .i64, .sl [.i .i64, .i .i64], .i .i64, .sl [.i .i64, .i .i64, .i .i64, .i .i64, .i .i64, .i .i64]], false⟩, ⟨34, [.i .i64], false⟩] 562932773552192
  (.seq (.rg [o1 35 (.data (.bin .lss) [.t 34, .t 33])])
  (.seq (.cond (.t 35)
   .skip
   (.exit 2))
  (.seq (.block 3 (.seq (.rg [o1 36 (.idx .nil),
    o1 37 (.load 6 [] 3 (.t 36) 1 true),
    o1 38 (.copy 0),
    o3 39 108 [.t 38],
    ⟨false, [], [], .det 2 (.sli [.sl [.i .i64]] [.t 39]), [40, 39], (some 40), none⟩,
    ⟨false, [37], [], .det 3 (.app (some 37) 40), [41, 37, 40, 37, 6], (some 41), none⟩,
    o1 42 (.idx .nil),
    o4 2 [6, 41, 37] (.store 6 [] 3 (.t 42) (.t 41))])
  (.rg [o1 43 (.idx .nil),
    o1 44 (.load 6 [] 4 (.t 43) 1 true),
    ⟨false, [], [], .det 2 (.sli [.i .i64] [.c [.i .i64] [.int .i64 (0)]]), [45, 1000000001], (some 45), none⟩,
    ⟨false, [44], [], .det 2 (.app (some 44) 45), [46, 44, 44, 6], (some 46), none⟩,
    o1 47 (.idx .nil),
    o4 2 [6, 46, 44] (.store 6 [] 4 (.t 47) (.t 46))])))
  (.rg [o1 48 (.data (.bin .add) [.t 34, .c (.int .i64 (1))]),
    o1 34 (.copy 48)]))))))))
 (.seq (.rg [o1 49 (.load 6 [] 0 .nil 15 true),
   ⟨false, [49], [], .det 2 (.store 4 [] 0 .nil (.t 49)), [4, 49, 49, 6], none, none⟩,
   o1 5 (.lit [.b] [.bool true])])
 .ret))))))
def s_iHeadNew : Sig := ⟨[.rd false [.d], .rd false [.d]], (.tup [(true, 15), (false, 1)] [.d, .sl (.own none) [.d], .sl (.own none) [.d, .d], .sl (.own none) [.sl (.own none) [.d]], .sl (.own none) [.d], .d, .d, .d, .d, .d, .d, .d, .sl (.own none) [.d, .d], .d, .sl (.own none) [.d, .d, .d, .d, .d, .d], .d])⟩
noncomputable def E_iHeadNew : TEnv := envOf [(101, p_iin), (108, p_ifirst)]
noncomputable def f_iHeadNew (n : Nat) : Int × Int → Option ((Int × List (Int) × List (Int × Int) × List (List (Int)) × List (Int) × Int × Int × Int × Int × Int × Int × Int × List (Int × Int) × Int × List (Int × Int × Int × Int × Int × Int) × Bool) × Unit) := runFn n E_iHeadNew c_iHeadNew [[.i .i64], [.i .i64]] [.i .i64, .sl [.i .i64], .sl [.i .i64, .i .i64], .sl [.sl [.i .i64]], .sl [.i .i64], .i .i64, .i .i64, .i .i64, .i .i64, .i .i64, .i .i64, .i .i64, .sl [.i .i64, .i .i64], .i .i64, .sl [.i .i64, .i .i64, .i .i64, .i .i64, .i .i64, .i .i64], .b] [] [4, 5] .no
noncomputable def g_iHeadNew := f_iHeadNew BIG
noncomputable def p_iHeadNew : TSp := ⟨s_iHeadNew, [[.i .i64], [.i .i64]], [.i .i64, .sl [.i .i64], .sl [.i .i64, .i .i64], .sl [.sl [.i .i64]], .sl [.i .i64], .i .i64, .i .i64, .i .i64, .i .i64, .i .i64, .i .i64, .i .i64, .sl [.i .i64, .i .i64], .i .i64, .sl [.i .i64, .i .i64, .i .i64, .i .i64, .i .i64, .i .i64], .b], [], Ou.j .no, g_iHeadNew⟩
theorem k_iHeadNew : chkW PG E_iHeadNew 43 s_iHeadNew (c_iHeadNew.ht 50) .no = some (c_iHeadNew.wc E_iHeadNew, [4, 5]) := by kernel_rfl
theorem ok_iHeadNew : p_iHeadNew.Ok PG 43 := mkOk (env_cons ok_iin (env_cons ok_ifirst (env_nil PG))) k_iHeadNew (by kernel_rfl)
theorem e_iHeadNew (n : Nat) (a0 : Int) (a1 : Int) : f_iHeadNew n (a0, a1) =
  Option.bind (Option.bind (g_iin (a0, (1 : Int), (12 : Int))) fun r0 =>
   bif !r0.1 then
    some true
   else Option.bind (g_iin (a1, (1 : Int), (3 : Int))) fun r1 =>
   some !r1.1 : Option (Bool)) fun x2 =>
  bif x2 then
   some (((0 : Int), [], [], [], [], (0 : Int), (0 : Int), (0 : Int), (0 : Int), (0 : Int), (0 : Int), (0 : Int), [], (0 : Int), [], false), ())
  else Option.bind (loopT n (X := (Int × List (Int) × List (Int × Int) × List ((List (Int))) × List (Int) × Int × Int × Int × Int × Int × Int × Int × List (Int × Int) × Int × List (Int × Int × Int × Int × Int × Int)) × Int) (B := (Int × List (Int) × List (Int × Int) × List ((List (Int))) × List (Int) × Int × Int × Int × Int × Int × Int × Int × List (Int × Int) × Int × List (Int × Int × Int × Int × Int × Int))) (fun self4 x3 =>
    bif decide (x3.2 < a0) then
     bif decide (a1 = 0) then
      none
     else bif decide (x3.1.2.1.length + ([IntKind.wrap .i64 ((1 : Int) + (Int.tmod x3.2 a1))]).length ≤ 4294967296) then
      self4 ((x3.1.1, x3.1.2.1 ++ ([IntKind.wrap .i64 ((1 : Int) + (Int.tmod x3.2 a1))]), x3.1.2.2), IntKind.wrap .i64 (x3.2 + (1 : Int)))
     else none
    else some x3.1) ((a0, [], [], [], [], (0 : Int), (0 : Int), (0 : Int), (0 : Int), (0 : Int), (0 : Int), (0 : Int), [], (0 : Int), []), (0 : Int)) : Option ((Int × List (Int) × List (Int × Int) × List ((List (Int))) × List (Int) × Int × Int × Int × Int × Int × Int × Int × List (Int × Int) × Int × List (Int × Int × Int × Int × Int × Int)))) fun x5 =>
  Option.bind (loopT n (X := (Int × List (Int) × List (Int × Int) × List ((List (Int))) × List (Int) × Int × Int × Int × Int × Int × Int × Int × List (Int × Int) × Int × List (Int × Int × Int × Int × Int × Int)) × Int) (B := (Int × List (Int) × List (Int × Int) × List ((List (Int))) × List (Int) × Int × Int × Int × Int × Int × Int × Int × List (Int × Int) × Int × List (Int × Int × Int × Int × Int × Int))) (fun self7 x6 =>
    bif decide (x6.2 < a1) then
     Option.bind (g_ifirst a0) fun r8 =>
     bif decide (x6.1.2.2.2.1.length + [r8.1].length ≤ 4294967296) then
      bif decide (x6.1.2.2.2.2.1.length + ([(0 : Int)]).length ≤ 4294967296) then
       self7 ((x6.1.1, x6.1.2.1, x6.1.2.2.1, x6.1.2.2.2.1 ++ [r8.1], x6.1.2.2.2.2.1 ++ ([(0 : Int)]), x6.1.2.2.2.2.2), IntKind.wrap .i64 (x6.2 + (1 : Int)))
      else none
     else none
    else some x6.1) (x5, (0 : Int)) : Option ((Int × List (Int) × List (Int × Int) × List ((List (Int))) × List (Int) × Int × Int × Int × Int × Int × Int × Int × List (Int × Int) × Int × List (Int × Int × Int × Int × Int × Int)))) fun x9 =>
  some ((x9.1, x9.2.1, x9.2.2.1, x9.2.2.2.1, x9.2.2.2.2.1, x9.2.2.2.2.2.1, x9.2.2.2.2.2.2.1, x9.2.2.2.2.2.2.2.1, x9.2.2.2.2.2.2.2.2.1, x9.2.2.2.2.2.2.2.2.2.1, x9.2.2.2.2.2.2.2.2.2.2.1, x9.2.2.2.2.2.2.2.2.2.2.2.1, x9.2.2.2.2.2.2.2.2.2.2.2.2.1, x9.2.2.2.2.2.2.2.2.2.2.2.2.2.1, x9.2.2.2.2.2.2.2.2.2.2.2.2.2.2, true), ()) := by kernel_rfl
/- spec.l01In -/
def c_sl01In : TC :=
 (.seq (.rg [o1 6 (.lit [.b] [.bool false])])
 (.seq (.join [⟨6, [.b], false⟩] 32704 none (.rg [o1 7 (.copy 0),
   o1 8 (.copy 1),
   o1 9 (.data (.bin .geq) [.t 7, .t 8]),
   o1 10 (.copy 9),
   o2 11 (.copy 0) 3 true,
   o2 12 (.copy 2) 3 true,
   o2 13 (.data (.bin .leq) [.t 11, .t 12]) 3 true,
   ⟨false, [], [], .pick 10 (.t 13) (.c (.bool false)), [14], (some 14), none⟩,
   o1 6 (.copy 14)]))
 .ret))
def s_sl01In : Sig := ⟨[.rd false [.d], .rd false [.d], .rd false [.d]], (.one false [.d])⟩
noncomputable def E_sl01In : TEnv := envOf []
noncomputable def f_sl01In (n : Nat) : Int × Int × Int → Option ((Bool) × Unit) := runFn n E_sl01In c_sl01In [[.i .i64], [.i .i64], [.i .i64]] [.b] [] [6] .no
noncomputable def g_sl01In := f_sl01In BIG
noncomputable def p_sl01In : TSp := ⟨s_sl01In, [[.i .i64], [.i .i64], [.i .i64]], [.b], [], Ou.j .no, g_sl01In⟩
theorem k_sl01In : chkW PG E_sl01In 98 s_sl01In (c_sl01In.ht 15) .no = some (c_sl01In.wc E_sl01In, [6]) := by kernel_rfl
theorem ok_sl01In : p_sl01In.Ok PG 98 := mkOk (env_nil PG) k_sl01In (by kernel_rfl)
theorem e_sl01In (n : Nat) (a0 : Int) (a1 : Int) (a2 : Int) : f_sl01In n (a0, a1, a2) =
  Option.bind (bif decide (a1 ≤ a0) then
    some (decide (a0 ≤ a2))
   else some false : Option (Bool)) fun x0 =>
  some (x0, ()) := by kernel_rfl
/- spec.l05Labels -/
def c_sl05Labels : TC :=
 (.seq (.rg [o1 4 (.lit [.sl [.i .i64]] [.slice none 0 0])])
 (.seq (.rg [o1 11 (.sli [.i .i64] []),
   ⟨false, [], [], .det 2 (.copy 11), [5, 11], (some 5), none⟩])
 (.seq (.join [⟨5, [.sl [.i .i64]], false⟩] 2093152 none (.seq (.rg [o1 6 (.lit [.i .i64] [.int .i64 (0)])])
 (.block 0 (.loop [⟨5, [.sl [.i .i64]], false⟩, ⟨6, [.i .i64], false⟩] 2093152
  (.seq (.seq (.rg [o1 12 (.copy 6),
    o1 13 (.copy 0),
    o1 14 (.data (.bin .lss) [.t 12, .t 13])])
  (.cond (.t 14)
   .skip
   (.exit 0)))
  (.seq (.block 1 (.rg [⟨false, [], [], .det 2 (.copy 5), [17, 5], (some 17), none⟩,
    o1 18 (.copy 6),
    o1 19 (.sli [.i .i64] [.t 18]),
    ⟨false, [], [], .det 2 (.app (some 17) 19), [20, 17], (some 20), none⟩,
    ⟨false, [], [], .det 2 (.copy 20), [5, 20], (some 5), none⟩]))
  (.rg [o1 15 (.copy 6),
    o1 16 (.data (.bin .add) [.t 15, .c (.int .i64 (1))]),
    o1 6 (.copy 16)])))))))
 (.seq (.join [⟨5, [.sl [.i .i64]], false⟩] 1180591620717409208224 none (.seq (.rg [o1 7 (.lit [.i .i64] [.int .i64 (0)])])
 (.block 2 (.loop [⟨5, [.sl [.i .i64]], false⟩, ⟨7, [.i .i64], false⟩] 1180591620717409208224
  (.seq (.seq (.rg [o1 21 (.copy 7),
    o1 22 (.copy 0),
    o1 23 (.data (.bin .lss) [.t 21, .t 22])])
  (.cond (.t 23)
   .skip
   (.exit 2)))
  (.seq (.join [⟨5, [.sl [.i .i64]], false⟩] 1180591620717344196384 none (.block 3 (.seq (.rg [o1 8 (.lit [.i .i64] [.int .i64 (0)])])
  (.block 4 (.loop [⟨5, [.sl [.i .i64]], false⟩, ⟨8, [.i .i64], false⟩] 1180591620717344196384
   (.seq (.seq (.rg [o1 26 (.copy 8),
     o1 27 (.copy 1),
     o1 28 (.len 27),
     o1 29 (.data (.bin .lss) [.t 26, .t 28])])
   (.cond (.t 29)
    .skip
    (.exit 4)))
   (.seq (.join [⟨5, [.sl [.i .i64]], false⟩] 1180591620713116337696 none (.block 5 (.seq (.rg [⟨true, [], [], .det 1 (.copy 5), [32], (some 32), none⟩,
     o1 33 (.copy 1),
     o1 34 (.copy 8),
     o1 35 (.index 33 (.t 34)),
     o1 36 (.idx (.t 35)),
     o1 37 (.load 33 [(0, 2)] 0 (.t 36) 1 false),
     o1 38 (.index 32 (.t 37)),
     o1 39 (.load 5 [(0, 1)] 0 (.t 38) 1 false),
     o1 9 (.copy 39)])
   (.seq (.rg [⟨true, [], [], .det 1 (.copy 5), [40], (some 40), none⟩,
     o1 41 (.copy 1),
     o1 42 (.copy 8),
     o1 43 (.index 41 (.t 42)),
     o1 44 (.idx (.t 43)),
     o1 45 (.load 41 [(0, 2)] 1 (.t 44) 1 false),
     o1 46 (.index 40 (.t 45)),
     o1 47 (.load 5 [(0, 1)] 0 (.t 46) 1 false),
     o1 10 (.copy 47)])
   (.seq (.join [⟨5, [.sl [.i .i64]], false⟩] 576180381133307936 none (.seq (.rg [o1 48 (.copy 9),
     o1 49 (.copy 10),
     o1 50 (.data (.bin .lss) [.t 48, .t 49])])
   (.cond (.t 50)
    (.rg [⟨true, [], [], .det 1 (.copy 5), [51], (some 51), none⟩,
      o1 52 (.copy 1),
      o1 53 (.copy 8),
      o1 54 (.index 52 (.t 53)),
      o1 55 (.idx (.t 54)),
      o1 56 (.load 52 [(0, 2)] 1 (.t 55) 1 false),
      o1 57 (.copy 9),
      o1 58 (.index 51 (.t 56)),
      o4 1 [5, 32, 40, 51] (.store 5 [(0, 1)] 0 (.t 58) (.t 57))])
    .skip)))
   (.seq (.rg [o1 59 (.copy 10),
     o1 60 (.copy 9),
     o1 61 (.data (.bin .lss) [.t 59, .t 60])])
   (.cond (.t 61)
    (.rg [⟨true, [], [], .det 1 (.copy 5), [62], (some 62), none⟩,
      o1 63 (.copy 1),
      o1 64 (.copy 8),
      o1 65 (.index 63 (.t 64)),
      o1 66 (.idx (.t 65)),
      o1 67 (.load 63 [(0, 2)] 0 (.t 66) 1 false),
      o1 68 (.copy 10),
      o1 69 (.index 62 (.t 67)),
      o4 1 [5, 62] (.store 5 [(0, 1)] 0 (.t 69) (.t 68))])
    .skip)))))))
   (.rg [o1 30 (.copy 8),
     o1 31 (.data (.bin .add) [.t 30, .c (.int .i64 (1))]),
     o1 8 (.copy 31)]))))))))
  (.rg [o1 24 (.copy 7),
    o1 25 (.data (.bin .add) [.t 24, .c (.int .i64 (1))]),
    o1 7 (.copy 25)])))))))
 (.seq (.rg [⟨false, [], [], .det 2 (.copy 5), [70, 5], (some 70), none⟩,
   ⟨false, [], [], .det 2 (.copy 70), [4, 70], (some 4), none⟩])
 .ret)))))
def s_sl05Labels : Sig := ⟨[.rd false [.d], .rd false [.sl (.own none) [.d, .d]]], (.one false [.sl (.own none) [.d]])⟩
noncomputable def E_sl05Labels : TEnv := envOf []
noncomputable def f_sl05Labels (n : Nat) : Int × (List (Int × Int)) → Option ((List (Int)) × Unit) := runFn n E_sl05Labels c_sl05Labels [[.i .i64], [.sl [.i .i64, .i .i64]]] [.sl [.i .i64]] [] [4] .no
noncomputable def g_sl05Labels := f_sl05Labels BIG
noncomputable def p_sl05Labels : TSp := ⟨s_sl05Labels, [[.i .i64], [.sl [.i .i64, .i .i64]]], [.sl [.i .i64]], [], Ou.j .no, g_sl05Labels⟩
theorem k_sl05Labels : chkW PG E_sl05Labels 111 s_sl05Labels (c_sl05Labels.ht 71) .no = some (c_sl05Labels.wc E_sl05Labels, [4]) := by kernel_rfl
theorem ok_sl05Labels : p_sl05Labels.Ok PG 111 := mkOk (env_nil PG) k_sl05Labels (by kernel_rfl)
theorem e_sl05Labels (n : Nat) (a0 : Int) (a1 : List (Int × Int)) : f_sl05Labels n (a0, a1) =
  Option.bind (loopT n (X := (List (Int)) × Int) (B := (List (Int))) (fun self1 x0 =>
    bif decide (x0.2 < a0) then
     bif decide (x0.1.length + [x0.2].length ≤ 4294967296) then
      self1 (x0.1 ++ [x0.2], IntKind.wrap .i64 (x0.2 + (1 : Int)))
     else none
    else some x0.1) ([], (0 : Int)) : Option ((List (Int)))) fun x2 =>
  Option.bind (loopT n (X := (List (Int)) × Int) (B := (List (Int))) (fun self4 x3 =>
    bif decide (x3.2 < a0) then
     Option.bind (loopT n (X := (List (Int)) × Int) (B := (List (Int))) (fun self6 x5 =>
       bif decide (x5.2 < (a1.length : Int)) then
        Option.bind (bnd a1.length x5.2 fun n7 =>
         Option.bind a1[n7]? fun y8 =>
         bnd x5.1.length y8.1 fun n9 =>
         Option.bind x5.1[n9]? fun y10 =>
         bnd a1.length x5.2 fun n11 =>
         Option.bind a1[n11]? fun y12 =>
         bnd x5.1.length y12.2 fun n13 =>
         Option.bind x5.1[n13]? fun y14 =>
         Option.bind (bif decide (y10 < y14) then
           bnd a1.length x5.2 fun n15 =>
           Option.bind a1[n15]? fun y16 =>
           bnd x5.1.length y16.2 fun n17 =>
           Option.bind x5.1[n17]? fun y18 =>
           some (x5.1.set n17 y10)
          else some x5.1 : Option ((List (Int)))) fun x19 =>
         bif decide (y14 < y10) then
          bnd a1.length x5.2 fun n20 =>
          Option.bind a1[n20]? fun y21 =>
          bnd x19.length y21.1 fun n22 =>
          Option.bind x19[n22]? fun y23 =>
          some (x19.set n22 y14)
         else some x19 : Option ((List (Int)))) fun x24 =>
        self6 (x24, IntKind.wrap .i64 (x5.2 + (1 : Int)))
       else some x5.1) (x3.1, (0 : Int)) : Option ((List (Int)))) fun x25 =>
     self4 (x25, IntKind.wrap .i64 (x3.2 + (1 : Int)))
    else some x3.1) (x2, (0 : Int)) : Option ((List (Int)))) fun x26 =>
  some (x26, ()) := by kernel_rfl
/- spec.HeadNew -/
def c_sHeadNew : TC :=
 (.seq (.rg [⟨false, [], [], .det 2 (.a (.c [.i .i64, .sl [.i .i64], .sl [.i .i64, .i .i64], .sl [.sl [.i .i64]], .sl [.i .i64], .i .i64, .i .i64, .i .i64, .i .i64, .i .i64, .i .i64, .i .i64, .sl [.i .i64, .i .i64], .i .i64, .sl [.i .i64, .i .i64, .i .i64, .i .i64, .i .i64, .i .i64]] [.int .i64 (0), .slice none 0 0, .slice none 0 0, .slice none 0 0, .slice none 0 0, .int .i64 (0), .int .i64 (0), .int .i64 (0), .int .i64 (0), .int .i64 (0), .int .i64 (0), .int .i64 (0), .slice none 0 0, .int .i64 (0), .slice none 0 0])), [4, 1000000001], (some 4), none⟩,
   o1 5 (.lit [.b] [.bool false])])
 (.seq (.seq (.join [⟨16, [.b], false⟩] 130560 none (.rg [o1 9 (.copy 0),
   o3 10 98 [.t 9, .c [.i .i64] [.int .i64 (1)], .c [.i .i64] [.int .i64 (12)]],
   o1 11 (.data .not [.t 10]),
   o1 12 (.copy 11),
   o2 13 (.copy 1) 3 false,
   ⟨false, [], [], .call 1 98 [.t 13, .c [.i .i64] [.int .i64 (1)], .c [.i .i64] [.int .i64 (3)]] .no, [14], (some 14), some (3, false)⟩,
   o2 15 (.data .not [.t 14]) 3 false,
   ⟨false, [], [], .pick 12 (.c (.bool true)) (.t 15), [16], (some 16), none⟩]))
 (.cond (.t 16)
  (.seq (.rg [o1 17 (.build [.i .i64, .sl [.i .i64], .sl [.i .i64, .i .i64], .sl [.sl [.i .i64]], .sl [.i .i64], .i .i64, .i .i64, .i .i64, .i .i64, .i .i64, .i .i64, .i .i64, .sl [.i .i64, .i .i64], .i .i64, .sl [.i .i64, .i .i64, .i .i64, .i .i64, .i .i64, .i .i64]] []),
    o4 2 [4, 17] (.store 4 [] 0 .nil (.t 17)),
    o1 5 (.lit [.b] [.bool false])])
  .ret)
  .skip))
 (.seq (.rg [o1 18 (.copy 0),
   o1 19 (.copy 1),
   o1 20 (.make (.t 19) [.i .i64]),
   ⟨false, [], [], .det 2 (.build [.i .i64, .sl [.i .i64], .sl [.i .i64, .i .i64], .sl [.sl [.i .i64]], .sl [.i .i64], .i .i64, .i .i64, .i .i64, .i .i64, .i .i64, .i .i64, .i .i64, .sl [.i .i64, .i .i64], .i .i64, .sl [.i .i64, .i .i64, .i .i64, .i .i64, .i .i64, .i .i64]] [(0, .t 18), (4, .t 20)]), [21, 20], (some 21), none⟩,
   ⟨false, [], [], .det 2 (.a (.c [.i .i64, .sl [.i .i64], .sl [.i .i64, .i .i64], .sl [.sl [.i .i64]], .sl [.i .i64], .i .i64, .i .i64, .i .i64, .i .i64, .i .i64, .i .i64, .i .i64, .sl [.i .i64, .i .i64], .i .i64, .sl [.i .i64, .i .i64, .i .i64, .i .i64, .i .i64, .i .i64]] [.int .i64 (0), .slice none 0 0, .slice none 0 0, .slice none 0 0, .slice none 0 0, .int .i64 (0), .int .i64 (0), .int .i64 (0), .int .i64 (0), .int .i64 (0), .int .i64 (0), .int .i64 (0), .slice none 0 0, .int .i64 (0), .slice none 0 0])), [6, 1000000001], (some 6), none⟩,
   o4 2 [6, 21] (.store 6 [] 0 .nil (.t 21))])
 (.seq (.join [⟨6, [.i .i64, .sl [.i .i64], .sl [.i .i64, .i .i64], .sl [.sl [.i .i64]], .sl [.i .i64], .i .i64, .i .i64, .i .i64, .i .i64, .i .i64, .i .i64, .i .i64, .sl [.i .i64, .i .i64], .i .i64, .sl [.i .i64, .i .i64, .i .i64, .i .i64, .i .i64, .i .i64]], false⟩] 68715282624 none (.seq (.rg [o1 7 (.lit [.i .i64] [.int .i64 (0)])])
 (.block 0 (.loop [⟨6, [.i .i64, .sl [.i .i64], .sl [.i .i64, .i .i64], .sl [.sl [.i .i64]], .sl [.i .i64], .i .i64, .i .i64, .i .i64, .i .i64, .i .i64, .i .i64, .i .i64, .sl [.i .i64, .i .i64], .i .i64, .sl [.i .i64, .i .i64, .i .i64, .i .i64, .i .i64, .i .i64]], false⟩, ⟨7, [.i .i64], false⟩] 68715282624
  (.seq (.seq (.rg [o1 22 (.copy 7),
    o1 23 (.copy 0),
    o1 24 (.data (.bin .lss) [.t 22, .t 23])])
  (.cond (.t 24)
   .skip
   (.exit 0)))
  (.seq (.block 1 (.rg [o1 27 (.idx .nil),
    o1 28 (.load 6 [] 1 (.t 27) 1 true),
    o1 29 (.copy 7),
    o1 30 (.copy 1),
    o1 31 (.data (.bin .rem) [.t 29, .t 30]),
    o1 32 (.data (.bin .add) [.c (.int .i64 (1)), .t 31]),
    o1 33 (.sli [.i .i64] [.t 32]),
    ⟨false, [28], [], .det 2 (.app (some 28) 33), [34, 28, 28, 6], (some 34), none⟩,
    o1 35 (.idx .nil),
    o4 2 [6, 34, 28] (.store 6 [] 1 (.t 35) (.t 34))]))
  (.rg [o1 25 (.copy 7),
    o1 26 (.data (.bin .add) [.t 25, .c (.int .i64 (1))]),
    o1 7 (.copy 26)])))))))
 (.seq (.join [⟨6, [.i .i64, .sl [.i .i64], .sl [.i .i64, .i .i64], .sl [.sl [.i .i64]], .sl [.i .i64], .i .i64, .i .i64, .i .i64, .i .i64, .i .i64, .i .i64, .i .i64, .sl [.i .i64, .i .i64], .i .i64, .sl [.i .i64, .i .i64, .i .i64, .i .i64, .i .i64, .i .i64]], false⟩] 562881233944896 none (.seq (.rg [o1 8 (.lit [.i .i64] [.int .i64 (0)])])
 (.block 2 (.loop [⟨6, [.i .i64, .sl [.i .i64], .sl [.i .i64, .i .i64], .sl [.sl [.i .i64]], .sl [.i .i64], .i .i64, .i .i64, .i .i64, .i .i64, .i .i64, .i .i64, .i .i64, .sl [.i .i64, .i .i64], .i .i64, .sl [.i .i64, .i .i64, .i .i64, .i .i64, .i .i64, .i .i64]], false⟩, ⟨8, [.i .i64], false⟩] 562881233944896
  (.seq (.seq (.rg [o1 36 (.copy 8),
    o1 37 (.copy 1),
    o1 38 (.data (.bin .lss) [.t 36, .t 37])])
  (.cond (.t 38)
   .skip
   (.exit 2)))
  (.seq (.block 3 (.rg [o1 41 (.idx .nil),
    o1 42 (.load 6 [] 3 (.t 41) 1 true),
    o1 43 (.copy 0),
    o1 44 (.sli [.i .i64, .i .i64] []),
    o3 45 111 [.t 43, .t 44],
    ⟨false, [], [], .det 2 (.sli [.sl [.i .i64]] [.t 45]), [46, 45], (some 46), none⟩,
    ⟨false, [42], [], .det 3 (.app (some 42) 46), [47, 42, 46, 42, 6], (some 47), none⟩,
    o1 48 (.idx .nil),
    o4 2 [6, 47, 42] (.store 6 [] 3 (.t 48) (.t 47))]))
  (.rg [o1 39 (.copy 8),
    o1 40 (.data (.bin .add) [.t 39, .c (.int .i64 (1))]),
    o1 8 (.copy 40)])))))))
 (.seq (.rg [o1 49 (.load 6 [] 0 .nil 15 true),
   ⟨false, [49], [], .det 2 (.store 4 [] 0 .nil (.t 49)), [4, 49, 49, 6], none, none⟩,
   o1 5 (.lit [.b] [.bool true])])
 .ret))))))
def s_sHeadNew : Sig := ⟨[.rd false [.d], .rd false [.d]], (.tup [(true, 15), (false, 1)] [.d, .sl (.own none) [.d], .sl (.own none) [.d, .d], .sl (.own none) [.sl (.own none) [.d]], .sl (.own none) [.d], .d, .d, .d, .d, .d, .d, .d, .sl (.own none) [.d, .d], .d, .sl (.own none) [.d, .d, .d, .d, .d, .d], .d])⟩
noncomputable def E_sHeadNew : TEnv := envOf [(98, p_sl01In), (111, p_sl05Labels)]
noncomputable def f_sHeadNew (n : Nat) : Int × Int → Option ((Int × List (Int) × List (Int × Int) × List (List (Int)) × List (Int) × Int × Int × Int × Int × Int × Int × Int × List (Int × Int) × Int × List (Int × Int × Int × Int × Int × Int) × Bool) × Unit) := runFn n E_sHeadNew c_sHeadNew [[.i .i64], [.i .i64]] [.i .i64, .sl [.i .i64], .sl [.i .i64, .i .i64], .sl [.sl [.i .i64]], .sl [.i .i64], .i .i64, .i .i64, .i .i64, .i .i64, .i .i64, .i .i64, .i .i64, .sl [.i .i64, .i .i64], .i .i64, .sl [.i .i64, .i .i64, .i .i64, .i .i64, .i .i64, .i .i64], .b] [] [4, 5] .no
noncomputable def g_sHeadNew := f_sHeadNew BIG
noncomputable def p_sHeadNew : TSp := ⟨s_sHeadNew, [[.i .i64], [.i .i64]], [.i .i64, .sl [.i .i64], .sl [.i .i64, .i .i64], .sl [.sl [.i .i64]], .sl [.i .i64], .i .i64, .i .i64, .i .i64, .i .i64, .i .i64, .i .i64, .i .i64, .sl [.i .i64, .i .i64], .i .i64, .sl [.i .i64, .i .i64, .i .i64, .i .i64, .i .i64, .i .i64], .b], [], Ou.j .no, g_sHeadNew⟩
theorem k_sHeadNew : chkW PG E_sHeadNew 44 s_sHeadNew (c_sHeadNew.ht 50) .no = some (c_sHeadNew.wc E_sHeadNew, [4, 5]) := by kernel_rfl
theorem ok_sHeadNew : p_sHeadNew.Ok PG 44 := mkOk (env_cons ok_sl01In (env_cons ok_sl05Labels (env_nil PG))) k_sHeadNew (by kernel_rfl)
theorem e_sHeadNew (n : Nat) (a0 : Int) (a1 : Int) : f_sHeadNew n (a0, a1) =
  Option.bind (Option.bind (g_sl01In (a0, (1 : Int), (12 : Int))) fun r0 =>
   bif !r0.1 then
    some true
   else Option.bind (g_sl01In (a1, (1 : Int), (3 : Int))) fun r1 =>
   some !r1.1 : Option (Bool)) fun x2 =>
  bif x2 then
   some (((0 : Int), [], [], [], [], (0 : Int), (0 : Int), (0 : Int), (0 : Int), (0 : Int), (0 : Int), (0 : Int), [], (0 : Int), [], false), ())
  else bif decide (0 ≤ a1) then
   bif decide ((Int.toNat a1) ≤ 4294967296) then
    Option.bind (loopT n (X := (Int × List (Int) × List (Int × Int) × List ((List (Int))) × List (Int) × Int × Int × Int × Int × Int × Int × Int × List (Int × Int) × Int × List (Int × Int × Int × Int × Int × Int)) × Int) (B := (Int × List (Int) × List (Int × Int) × List ((List (Int))) × List (Int) × Int × Int × Int × Int × Int × Int × Int × List (Int × Int) × Int × List (Int × Int × Int × Int × Int × Int))) (fun self4 x3 =>
      bif decide (x3.2 < a0) then
       bif decide (a1 = 0) then
        none
       else bif decide (x3.1.2.1.length + ([IntKind.wrap .i64 ((1 : Int) + (Int.tmod x3.2 a1))]).length ≤ 4294967296) then
        self4 ((x3.1.1, x3.1.2.1 ++ ([IntKind.wrap .i64 ((1 : Int) + (Int.tmod x3.2 a1))]), x3.1.2.2), IntKind.wrap .i64 (x3.2 + (1 : Int)))
       else none
      else some x3.1) ((a0, [], [], [], List.replicate (Int.toNat a1) (0 : Int), (0 : Int), (0 : Int), (0 : Int), (0 : Int), (0 : Int), (0 : Int), (0 : Int), [], (0 : Int), []), (0 : Int)) : Option ((Int × List (Int) × List (Int × Int) × List ((List (Int))) × List (Int) × Int × Int × Int × Int × Int × Int × Int × List (Int × Int) × Int × List (Int × Int × Int × Int × Int × Int)))) fun x5 =>
    Option.bind (loopT n (X := (Int × List (Int) × List (Int × Int) × List ((List (Int))) × List (Int) × Int × Int × Int × Int × Int × Int × Int × List (Int × Int) × Int × List (Int × Int × Int × Int × Int × Int)) × Int) (B := (Int × List (Int) × List (Int × Int) × List ((List (Int))) × List (Int) × Int × Int × Int × Int × Int × Int × Int × List (Int × Int) × Int × List (Int × Int × Int × Int × Int × Int))) (fun self7 x6 =>
      bif decide (x6.2 < a1) then
       Option.bind (g_sl05Labels (a0, [])) fun r8 =>
       bif decide (x6.1.2.2.2.1.length + [r8.1].length ≤ 4294967296) then
        self7 ((x6.1.1, x6.1.2.1, x6.1.2.2.1, x6.1.2.2.2.1 ++ [r8.1], x6.1.2.2.2.2), IntKind.wrap .i64 (x6.2 + (1 : Int)))
       else none
      else some x6.1) (x5, (0 : Int)) : Option ((Int × List (Int) × List (Int × Int) × List ((List (Int))) × List (Int) × Int × Int × Int × Int × Int × Int × Int × List (Int × Int) × Int × List (Int × Int × Int × Int × Int × Int)))) fun x9 =>
    some ((x9.1, x9.2.1, x9.2.2.1, x9.2.2.2.1, x9.2.2.2.2.1, x9.2.2.2.2.2.1, x9.2.2.2.2.2.2.1, x9.2.2.2.2.2.2.2.1, x9.2.2.2.2.2.2.2.2.1, x9.2.2.2.2.2.2.2.2.2.1, x9.2.2.2.2.2.2.2.2.2.2.1, x9.2.2.2.2.2.2.2.2.2.2.2.1, x9.2.2.2.2.2.2.2.2.2.2.2.2.1, x9.2.2.2.2.2.2.2.2.2.2.2.2.2.1, x9.2.2.2.2.2.2.2.2.2.2.2.2.2.2, true), ())
   else none
  else none := by kernel_rfl
/- impl.copyInts -/
def c_icopyInts : TC :=
 (.seq (.rg [o1 2 (.lit [.sl [.i .i64]] [.slice none 0 0])])
 (.seq (.rg [o1 3 (.copy 0),
   o1 4 (.app none 3),
   ⟨false, [], [], .det 2 (.copy 4), [2, 4], (some 2), none⟩])
 .ret))
def s_icopyInts : Sig := ⟨[.rd false [.sl (.own none) [.d]]], (.one false [.sl (.own none) [.d]])⟩
noncomputable def E_icopyInts : TEnv := envOf []
noncomputable def f_icopyInts (n : Nat) : List (Int) → Option ((List (Int)) × Unit) := runFn n E_icopyInts c_icopyInts [[.sl [.i .i64]]] [.sl [.i .i64]] [] [2] .no
noncomputable def g_icopyInts := f_icopyInts BIG
noncomputable def p_icopyInts : TSp := ⟨s_icopyInts, [[.sl [.i .i64]]], [.sl [.i .i64]], [], Ou.j .no, g_icopyInts⟩
theorem k_icopyInts : chkW PG E_icopyInts 100 s_icopyInts (c_icopyInts.ht 5) .no = some (c_icopyInts.wc E_icopyInts, [2]) := by kernel_rfl
theorem ok_icopyInts : p_icopyInts.Ok PG 100 := mkOk (env_nil PG) k_icopyInts (by kernel_rfl)
theorem e_icopyInts (n : Nat) (a0 : List (Int)) : f_icopyInts n a0 =
  bif decide (a0.length ≤ 4294967296) then
   some (a0, ())
  else none := by kernel_rfl
/- impl.copyEdges -/
def c_icopyEdges : TC :=
 (.seq (.rg [o1 2 (.lit [.sl [.i .i64, .i .i64]] [.slice none 0 0])])
 (.seq (.rg [o1 3 (.copy 0),
   o1 4 (.app none 3),
   ⟨false, [], [], .det 2 (.copy 4), [2, 4], (some 2), none⟩])
 .ret))
def s_icopyEdges : Sig := ⟨[.rd false [.sl (.own none) [.d, .d]]], (.one false [.sl (.own none) [.d, .d]])⟩
noncomputable def E_icopyEdges : TEnv := envOf []
noncomputable def f_icopyEdges (n : Nat) : (List (Int × Int)) → Option ((List (Int × Int)) × Unit) := runFn n E_icopyEdges c_icopyEdges [[.sl [.i .i64, .i .i64]]] [.sl [.i .i64, .i .i64]] [] [2] .no
noncomputable def g_icopyEdges := f_icopyEdges BIG
noncomputable def p_icopyEdges : TSp := ⟨s_icopyEdges, [[.sl [.i .i64, .i .i64]]], [.sl [.i .i64, .i .i64]], [], Ou.j .no, g_icopyEdges⟩
theorem k_icopyEdges : chkW PG E_icopyEdges 235 s_icopyEdges (c_icopyEdges.ht 5) .no = some (c_icopyEdges.wc E_icopyEdges, [2]) := by kernel_rfl
theorem ok_icopyEdges : p_icopyEdges.Ok PG 235 := mkOk (env_nil PG) k_icopyEdges (by kernel_rfl)
theorem e_icopyEdges (n : Nat) (a0 : List (Int × Int)) : f_icopyEdges n a0 =
  bif decide (a0.length ≤ 4294967296) then
   some (a0, ())
  else none := by kernel_rfl
/- impl.copyTask -/
def c_icopyTask : TC :=
 (.seq (.rg [o1 1 (.a (.t 0)),
   ⟨false, [], [], .det 2 (.a (.c [.i .i64, .i .i64, .i .i64, .i .i64, .i .i64, .i .i64, .i .i64, .sl [.i .i64, .i .i64], .i .i64] [.int .i64 (0), .int .i64 (0), .int .i64 (0), .int .i64 (0), .int .i64 (0), .int .i64 (0), .int .i64 (0), .slice none 0 0, .int .i64 (0)])), [2, 1000000001], (some 2), none⟩])
 (.seq (.rg [o1 3 (.idx .nil),
   o1 4 (.idx (.t 3)),
   o1 5 (.load 1 [] 7 (.t 4) 1 false),
   o3 6 235 [.t 5],
   o1 7 (.idx .nil),
   o1 8 (.idx (.t 7)),
   o4 2 [1, 6] (.store 1 [] 7 (.t 8) (.t 6))])
 (.seq (.rg [o1 9 (.load 1 [] 0 .nil 9 true),
   ⟨false, [9], [], .det 2 (.store 2 [] 0 .nil (.t 9)), [2, 9, 9, 1], none, none⟩])
 .ret)))
def s_icopyTask : Sig := ⟨[.rd true [.d, .d, .d, .d, .d, .d, .d, .sl (.own none) [.d, .d], .d]], (.one true [.d, .d, .d, .d, .d, .d, .d, .sl (.own none) [.d, .d], .d])⟩
noncomputable def E_icopyTask : TEnv := envOf [(235, p_icopyEdges)]
noncomputable def f_icopyTask (n : Nat) : (Int × Int × Int × Int × Int × Int × Int × List (Int × Int) × Int) → Option ((Int × Int × Int × Int × Int × Int × Int × List (Int × Int) × Int) × Unit) := runFn n E_icopyTask c_icopyTask [[.i .i64, .i .i64, .i .i64, .i .i64, .i .i64, .i .i64, .i .i64, .sl [.i .i64, .i .i64], .i .i64]] [.i .i64, .i .i64, .i .i64, .i .i64, .i .i64, .i .i64, .i .i64, .sl [.i .i64, .i .i64], .i .i64] [] [2] .no
noncomputable def g_icopyTask := f_icopyTask BIG
noncomputable def p_icopyTask : TSp := ⟨s_icopyTask, [[.i .i64, .i .i64, .i .i64, .i .i64, .i .i64, .i .i64, .i .i64, .sl [.i .i64, .i .i64], .i .i64]], [.i .i64, .i .i64, .i .i64, .i .i64, .i .i64, .i .i64, .i .i64, .sl [.i .i64, .i .i64], .i .i64], [], Ou.j .no, g_icopyTask⟩
theorem k_icopyTask : chkW PG E_icopyTask 236 s_icopyTask (c_icopyTask.ht 10) .no = some (c_icopyTask.wc E_icopyTask, [2]) := by kernel_rfl
theorem ok_icopyTask : p_icopyTask.Ok PG 236 := mkOk (env_cons ok_icopyEdges (env_nil PG)) k_icopyTask (by kernel_rfl)
theorem e_icopyTask (n : Nat) (a0 : Int × Int × Int × Int × Int × Int × Int × List (Int × Int) × Int) : f_icopyTask n a0 =
  Option.bind (g_icopyEdges a0.2.2.2.2.2.2.2.1) fun r0 =>
  some ((a0.1, a0.2.1, a0.2.2.1, a0.2.2.2.1, a0.2.2.2.2.1, a0.2.2.2.2.2.1, a0.2.2.2.2.2.2.1, r0.1, a0.2.2.2.2.2.2.2.2), ()) := by kernel_rfl
/- impl.copyHead -/
def c_icopyHead : TC :=
 (.seq (.rg [o1 1 (.a (.t 0)),
   ⟨false, [], [], .det 2 (.a (.c [.i .i64, .sl [.i .i64], .sl [.i .i64, .i .i64], .sl [.sl [.i .i64]], .sl [.i .i64], .i .i64, .i .i64, .i .i64, .i .i64, .i .i64, .i .i64, .i .i64, .sl [.i .i64, .i .i64], .i .i64, .sl [.i .i64, .i .i64, .i .i64, .i .i64, .i .i64, .i .i64]] [.int .i64 (0), .slice none 0 0, .slice none 0 0, .slice none 0 0, .slice none 0 0, .int .i64 (0), .int .i64 (0), .int .i64 (0), .int .i64 (0), .int .i64 (0), .int .i64 (0), .int .i64 (0), .slice none 0 0, .int .i64 (0), .slice none 0 0])), [2, 1000000001], (some 2), none⟩])
 (.seq (.rg [⟨false, [], [1000000001], .det 1 (.idx .nil), [6], (some 6), none⟩,
   ⟨false, [], [1000000001], .det 1 (.load 1 [] 0 (.t 6) 1 false), [7], (some 7), none⟩,
   ⟨false, [], [1000000001], .det 1 (.idx .nil), [8], (some 8), none⟩,
   ⟨false, [], [1000000001], .det 1 (.load 1 [] 1 (.t 8) 1 false), [9], (some 9), none⟩,
   ⟨false, [], [1000000001], .call 1 100 [.t 9] .no, [10], (some 10), none⟩,
   ⟨false, [], [1000000001], .det 1 (.idx .nil), [11], (some 11), none⟩,
   ⟨false, [], [1000000001], .det 1 (.load 1 [] 2 (.t 11) 1 false), [12], (some 12), none⟩,
   ⟨false, [], [1000000001], .call 1 235 [.t 12] .no, [13], (some 13), none⟩,
   ⟨false, [], [1000000001], .det 1 (.idx .nil), [14], (some 14), none⟩,
   ⟨false, [], [1000000001], .det 1 (.load 1 [] 4 (.t 14) 1 false), [15], (some 15), none⟩,
   ⟨false, [], [1000000001], .call 1 100 [.t 15] .no, [16], (some 16), none⟩,
   ⟨false, [], [1000000001], .det 1 (.idx .nil), [17], (some 17), none⟩,
   ⟨false, [], [1000000001], .det 1 (.load 1 [] 5 (.t 17) 9 false), [18], (some 18), none⟩,
   ⟨false, [], [1000000001], .call 1 236 [.t 18] .no, [19], (some 19), none⟩,
   ⟨false, [], [1000000001], .det 1 (.idx .nil), [20], (some 20), none⟩,
   ⟨false, [], [1000000001], .det 1 (.load 1 [] 14 (.t 20) 1 false), [21], (some 21), none⟩,
   ⟨false, [], [1000000001], .det 1 (.app none 21), [22], (some 22), none⟩,
   ⟨false, [], [1000000001], .det 6 (.build [.i .i64, .sl [.i .i64], .sl [.i .i64, .i .i64], .sl [.sl [.i .i64]], .sl [.i .i64], .i .i64, .i .i64, .i .i64, .i .i64, .i .i64, .i .i64, .i .i64, .sl [.i .i64, .i .i64], .i .i64, .sl [.i .i64, .i .i64, .i .i64, .i .i64, .i .i64, .i .i64]] [(0, .t 7), (1, .t 10), (2, .t 13), (4, .t 16), (5, .t 19), (14, .t 22)]), [23, 10, 13, 16, 19, 22], (some 23), none⟩,
   ⟨false, [], [], .det 2 (.a (.c [.i .i64, .sl [.i .i64], .sl [.i .i64, .i .i64], .sl [.sl [.i .i64]], .sl [.i .i64], .i .i64, .i .i64, .i .i64, .i .i64, .i .i64, .i .i64, .i .i64, .sl [.i .i64, .i .i64], .i .i64, .sl [.i .i64, .i .i64, .i .i64, .i .i64, .i .i64, .i .i64]] [.int .i64 (0), .slice none 0 0, .slice none 0 0, .slice none 0 0, .slice none 0 0, .int .i64 (0), .int .i64 (0), .int .i64 (0), .int .i64 (0), .int .i64 (0), .int .i64 (0), .int .i64 (0), .slice none 0 0, .int .i64 (0), .slice none 0 0])), [3, 1000000001], (some 3), none⟩,
   o4 2 [3, 23] (.store 3 [] 0 .nil (.t 23))])
 (.seq (.join [⟨3, [.i .i64, .sl [.i .i64], .sl [.i .i64, .i .i64], .sl [.sl [.i .i64]], .sl [.i .i64], .i .i64, .i .i64, .i .i64, .i .i64, .i .i64, .i .i64, .i .i64, .sl [.i .i64, .i .i64], .i .i64, .sl [.i .i64, .i .i64, .i .i64, .i .i64, .i .i64, .i .i64]], false⟩] 549739036712 none (.seq (.rg [o1 24 (.idx .nil),
   o1 25 (.load 1 [] 3 (.t 24) 1 false),
   o1 26 (.len 25),
   o1 27 (.lit [.i .i64] [.int .i64 (0)])])
 (.block 0 (.loop [⟨3, [.i .i64, .sl [.i .i64], .sl [.i .i64, .i .i64], .sl [.sl [.i .i64]], .sl [.i .i64], .i .i64, .i .i64, .i .i64, .i .i64, .i .i64, .i .i64, .i .i64, .sl [.i .i64, .i .i64], .i .i64, .sl [.i .i64, .i .i64, .i .i64, .i .i64, .i .i64, .i .i64]], false⟩, ⟨27, [.i .i64], false⟩] 549621596200
  (.seq (.rg [o1 28 (.data (.bin .lss) [.t 27, .t 26])])
  (.seq (.cond (.t 28)
   .skip
   (.exit 0))
  (.seq (.block 1 (.seq (.rg [o1 29 (.index 25 (.t 27)),
    o1 30 (.load 25 [(0, 1)] 0 (.t 29) 1 false),
    o1 5 (.copy 30)])
  (.rg [o1 31 (.idx .nil),
    o1 32 (.load 3 [] 3 (.t 31) 1 true),
    o1 33 (.copy 5),
    o3 34 100 [.t 33],
    ⟨false, [], [], .det 2 (.sli [.sl [.i .i64]] [.t 34]), [35, 34], (some 35), none⟩,
    ⟨false, [32], [], .det 3 (.app (some 32) 35), [36, 32, 35, 32, 3], (some 36), none⟩,
    o1 37 (.idx .nil),
    o4 2 [3, 36, 32] (.store 3 [] 3 (.t 37) (.t 36))])))
  (.rg [o1 38 (.data (.bin .add) [.t 27, .c (.int .i64 (1))]),
    o1 27 (.copy 38)]))))))))
 (.seq (.rg [o1 39 (.load 3 [] 0 .nil 15 true),
   ⟨false, [39], [], .det 2 (.store 2 [] 0 .nil (.t 39)), [2, 39, 39, 3], none, none⟩])
 .ret))))
def s_icopyHead : Sig := ⟨[.rd true [.d, .sl (.own none) [.d], .sl (.own none) [.d, .d], .sl (.own none) [.sl (.own none) [.d]], .sl (.own none) [.d], .d, .d, .d, .d, .d, .d, .d, .sl (.own none) [.d, .d], .d, .sl (.own none) [.d, .d, .d, .d, .d, .d]]], (.one true [.d, .sl (.own none) [.d], .sl (.own none) [.d, .d], .sl (.own none) [.sl (.own none) [.d]], .sl (.own none) [.d], .d, .d, .d, .d, .d, .d, .d, .sl (.own none) [.d, .d], .d, .sl (.own none) [.d, .d, .d, .d, .d, .d]])⟩
noncomputable def E_icopyHead : TEnv := envOf [(100, p_icopyInts), (235, p_icopyEdges), (236, p_icopyTask)]
noncomputable def f_icopyHead (n : Nat) : (Int × List (Int) × List (Int × Int) × List (List (Int)) × List (Int) × Int × Int × Int × Int × Int × Int × Int × List (Int × Int) × Int × List (Int × Int × Int × Int × Int × Int)) → Option ((Int × List (Int) × List (Int × Int) × List (List (Int)) × List (Int) × Int × Int × Int × Int × Int × Int × Int × List (Int × Int) × Int × List (Int × Int × Int × Int × Int × Int)) × Unit) := runFn n E_icopyHead c_icopyHead [[.i .i64, .sl [.i .i64], .sl [.i .i64, .i .i64], .sl [.sl [.i .i64]], .sl [.i .i64], .i .i64, .i .i64, .i .i64, .i .i64, .i .i64, .i .i64, .i .i64, .sl [.i .i64, .i .i64], .i .i64, .sl [.i .i64, .i .i64, .i .i64, .i .i64, .i .i64, .i .i64]]] [.i .i64, .sl [.i .i64], .sl [.i .i64, .i .i64], .sl [.sl [.i .i64]], .sl [.i .i64], .i .i64, .i .i64, .i .i64, .i .i64, .i .i64, .i .i64, .i .i64, .sl [.i .i64, .i .i64], .i .i64, .sl [.i .i64, .i .i64, .i .i64, .i .i64, .i .i64, .i .i64]] [] [2] .no
noncomputable def g_icopyHead := f_icopyHead BIG
noncomputable def p_icopyHead : TSp := ⟨s_icopyHead, [[.i .i64, .sl [.i .i64], .sl [.i .i64, .i .i64], .sl [.sl [.i .i64]], .sl [.i .i64], .i .i64, .i .i64, .i .i64, .i .i64, .i .i64, .i .i64, .i .i64, .sl [.i .i64, .i .i64], .i .i64, .sl [.i .i64, .i .i64, .i .i64, .i .i64, .i .i64, .i .i64]]], [.i .i64, .sl [.i .i64], .sl [.i .i64, .i .i64], .sl [.sl [.i .i64]], .sl [.i .i64], .i .i64, .i .i64, .i .i64, .i .i64, .i .i64, .i .i64, .i .i64, .sl [.i .i64, .i .i64], .i .i64, .sl [.i .i64, .i .i64, .i .i64, .i .i64, .i .i64, .i .i64]], [], Ou.j .no, g_icopyHead⟩
theorem k_icopyHead : chkW PG E_icopyHead 120 s_icopyHead (c_icopyHead.ht 40) .no = some (c_icopyHead.wc E_icopyHead, [2]) := by kernel_rfl
theorem ok_icopyHead : p_icopyHead.Ok PG 120 := mkOk (env_cons ok_icopyInts (env_cons ok_icopyEdges (env_cons ok_icopyTask (env_nil PG)))) k_icopyHead (by kernel_rfl)
theorem e_icopyHead (n : Nat) (a0 : Int × List (Int) × List (Int × Int) × List ((List (Int))) × List (Int) × Int × Int × Int × Int × Int × Int × Int × List (Int × Int) × Int × List (Int × Int × Int × Int × Int × Int)) : f_icopyHead n a0 =
  Option.bind (g_icopyInts a0.2.1) fun r0 =>
  Option.bind (g_icopyEdges a0.2.2.1) fun r1 =>
  Option.bind (g_icopyInts a0.2.2.2.2.1) fun r2 =>
  Option.bind (g_icopyTask (a0.2.2.2.2.2.1, a0.2.2.2.2.2.2.1, a0.2.2.2.2.2.2.2.1, a0.2.2.2.2.2.2.2.2.1, a0.2.2.2.2.2.2.2.2.2.1, a0.2.2.2.2.2.2.2.2.2.2.1, a0.2.2.2.2.2.2.2.2.2.2.2.1, a0.2.2.2.2.2.2.2.2.2.2.2.2.1, a0.2.2.2.2.2.2.2.2.2.2.2.2.2.1)) fun r3 =>
  bif decide (a0.2.2.2.2.2.2.2.2.2.2.2.2.2.2.length ≤ 4294967296) then
   Option.bind (loopT n (X := (Int × List (Int) × List (Int × Int) × List ((List (Int))) × List (Int) × Int × Int × Int × Int × Int × Int × Int × List (Int × Int) × Int × List (Int × Int × Int × Int × Int × Int)) × Int) (B := (Int × List (Int) × List (Int × Int) × List ((List (Int))) × List (Int) × Int × Int × Int × Int × Int × Int × Int × List (Int × Int) × Int × List (Int × Int × Int × Int × Int × Int))) (fun self5 x4 =>
     bif decide (x4.2 < (a0.2.2.2.1.length : Int)) then
      bnd a0.2.2.2.1.length x4.2 fun n6 =>
      Option.bind a0.2.2.2.1[n6]? fun y7 =>
      Option.bind (g_icopyInts y7) fun r8 =>
      bif decide (x4.1.2.2.2.1.length + [r8.1].length ≤ 4294967296) then
       self5 ((x4.1.1, x4.1.2.1, x4.1.2.2.1, x4.1.2.2.2.1 ++ [r8.1], x4.1.2.2.2.2), IntKind.wrap .i64 (x4.2 + (1 : Int)))
      else none
     else some x4.1) ((a0.1, r0.1, r1.1, [], r2.1, r3.1.1, r3.1.2.1, r3.1.2.2.1, r3.1.2.2.2.1, r3.1.2.2.2.2.1, r3.1.2.2.2.2.2.1, r3.1.2.2.2.2.2.2.1, r3.1.2.2.2.2.2.2.2.1, r3.1.2.2.2.2.2.2.2.2, a0.2.2.2.2.2.2.2.2.2.2.2.2.2.2), (0 : Int)) : Option ((Int × List (Int) × List (Int × Int) × List ((List (Int))) × List (Int) × Int × Int × Int × Int × Int × Int × Int × List (Int × Int) × Int × List (Int × Int × Int × Int × Int × Int)))) fun x9 =>
   some (x9, ())
  else none := by kernel_rfl
/- impl.labelsOk -/
def c_ilabelsOk : TC :=
 (.seq (.rg [o1 4 (.lit [.b] [.bool false])])
 (.seq (.seq (.rg [o1 7 (.copy 1),
   o1 8 (.len 7),
   o1 9 (.copy 0),
   o1 10 (.data (.bin .neq) [.t 8, .t 9])])
 (.cond (.t 10)
  (.seq (.rg [o1 4 (.lit [.b] [.bool false])])
  .ret)
  .skip))
 (.seq (.join [] 2147481712 (some [⟨4, [.b], false⟩]) (.seq (.rg [o1 11 (.copy 1),
   o1 12 (.len 11),
   o1 13 (.lit [.i .i64] [.int .i64 (0)])])
 (.block 0 (.loop [⟨13, [.i .i64], false⟩] 2147475568
  (.seq (.rg [o1 14 (.data (.bin .lss) [.t 13, .t 12])])
  (.seq (.cond (.t 14)
   .skip
   (.exit 0))
  (.seq (.join [] 1073709168 (some [⟨4, [.b], false⟩]) (.block 1 (.seq (.rg [o1 15 (.copy 13),
    o1 16 (.index 11 (.t 13)),
    o1 17 (.load 11 [(0, 1)] 0 (.t 16) 1 false),
    o1 5 (.copy 15),
    o1 6 (.copy 17)])
  (.seq (.join [⟨29, [.b], false⟩] 1073479680 none (.rg [o1 18 (.copy 6),
    o1 19 (.copy 5),
    o3 20 101 [.t 18, .c [.i .i64] [.int .i64 (0)], .t 19],
    o1 21 (.data .not [.t 20]),
    o1 22 (.copy 21),
    o2 23 (.copy 1) 4 false,
    o2 24 (.copy 6) 4 false,
    o2 25 (.index 23 (.t 24)) 4 false,
    o2 26 (.load 23 [(0, 1)] 0 (.t 25) 1 false) 4 false,
    o2 27 (.copy 6) 4 false,
    o2 28 (.data (.bin .neq) [.t 26, .t 27]) 4 false,
    ⟨false, [], [], .pick 22 (.c (.bool true)) (.t 28), [29], (some 29), none⟩]))
  (.cond (.t 29)
   (.seq (.rg [o1 4 (.lit [.b] [.bool false])])
   .ret)
   .skip)))))
  (.rg [o1 30 (.data (.bin .add) [.t 13, .c (.int .i64 (1))]),
    o1 13 (.copy 30)]))))))))
 (.seq (.rg [o1 4 (.lit [.b] [.bool true])])
 .ret))))
def s_ilabelsOk : Sig := ⟨[.rd false [.d], .rd false [.sl (.own none) [.d]]], (.one false [.d])⟩
noncomputable def E_ilabelsOk : TEnv := envOf [(101, p_iin)]
noncomputable def f_ilabelsOk (n : Nat) : Int × List (Int) → Option ((Bool) × Unit) := runFn n E_ilabelsOk c_ilabelsOk [[.i .i64], [.sl [.i .i64]]] [.b] [] [4] .no
noncomputable def g_ilabelsOk := f_ilabelsOk BIG
noncomputable def p_ilabelsOk : TSp := ⟨s_ilabelsOk, [[.i .i64], [.sl [.i .i64]]], [.b], [], Ou.j .no, g_ilabelsOk⟩
theorem k_ilabelsOk : chkW PG E_ilabelsOk 123 s_ilabelsOk (c_ilabelsOk.ht 31) .no = some (c_ilabelsOk.wc E_ilabelsOk, [4]) := by kernel_rfl
theorem ok_ilabelsOk : p_ilabelsOk.Ok PG 123 := mkOk (env_cons ok_iin (env_nil PG)) k_ilabelsOk (by kernel_rfl)
theorem e_ilabelsOk (n : Nat) (a0 : Int) (a1 : List (Int)) : f_ilabelsOk n (a0, a1) =
  bif !decide ((a1.length : Int) = a0) then
   some (false, ())
  else Option.bind (loopT n (X := Int) (B := (Unit) ⊕ (Bool)) (fun self1 x0 =>
    bif decide (x0 < (a1.length : Int)) then
     Option.bind (bnd a1.length x0 fun n2 =>
      Option.bind a1[n2]? fun y3 =>
      Option.bind (Option.bind (g_iin (y3, (0 : Int), x0)) fun r4 =>
       bif !r4.1 then
        some true
       else bnd a1.length y3 fun n5 =>
       Option.bind a1[n5]? fun y6 =>
       some (!decide (y6 = y3)) : Option (Bool)) fun x7 =>
      bif x7 then
       some (Sum.inr false)
      else some (Sum.inl ()) : Option ((Unit) ⊕ (Bool))) fun y => match y with
     | .inl x8 =>
      self1 (IntKind.wrap .i64 (x0 + (1 : Int)))
     | .inr x8 =>
      some (Sum.inr x8)
    else some (Sum.inl ())) (0 : Int) : Option ((Unit) ⊕ (Bool))) fun y => match y with
  | .inl x9 =>
   some (true, ())
  | .inr x9 =>
   some (x9, ()) := by kernel_rfl
/- impl.EdgeOk -/
def c_iEdgeOk : TC :=
 (.seq (.rg [o1 3 (.a (.t 1)),
   o1 4 (.lit [.b] [.bool false])])
 (.seq (.join [⟨4, [.b], false⟩] 268435440 none (.rg [o1 5 (.copy 0),
   o3 6 101 [.t 5, .c [.i .i64] [.int .i64 (1)], .c [.i .i64] [.int .i64 (12)]],
   o1 7 (.copy 6),
   o2 8 (.idx .nil) 2 true,
   o2 9 (.load 3 [] 0 (.t 8) 1 false) 2 true,
   o2 10 (.copy 0) 2 true,
   o2 11 (.data (.bin .sub) [.t 10, .c (.int .i64 (1))]) 2 true,
   ⟨false, [], [], .call 1 101 [.t 9, .c [.i .i64] [.int .i64 (0)], .t 11] .no, [12], (some 12), some (2, true)⟩,
   ⟨false, [], [], .pick 7 (.t 12) (.c (.bool false)), [13], (some 13), none⟩,
   o1 14 (.copy 13),
   o2 15 (.idx .nil) 9 true,
   o2 16 (.load 3 [] 1 (.t 15) 1 false) 9 true,
   o2 17 (.copy 0) 9 true,
   o2 18 (.data (.bin .sub) [.t 17, .c (.int .i64 (1))]) 9 true,
   ⟨false, [], [], .call 1 101 [.t 16, .c [.i .i64] [.int .i64 (0)], .t 18] .no, [19], (some 19), some (9, true)⟩,
   ⟨false, [], [], .pick 14 (.t 19) (.c (.bool false)), [20], (some 20), none⟩,
   o1 21 (.copy 20),
   o2 22 (.idx .nil) 16 true,
   o2 23 (.load 3 [] 0 (.t 22) 1 false) 16 true,
   o2 24 (.idx .nil) 16 true,
   o2 25 (.load 3 [] 1 (.t 24) 1 false) 16 true,
   o2 26 (.data (.bin .lss) [.t 23, .t 25]) 16 true,
   ⟨false, [], [], .pick 21 (.t 26) (.c (.bool false)), [27], (some 27), none⟩,
   o1 4 (.copy 27)]))
 .ret))
def s_iEdgeOk : Sig := ⟨[.rd false [.d], .rd true [.d, .d]], (.one false [.d])⟩
noncomputable def E_iEdgeOk : TEnv := envOf [(101, p_iin)]
noncomputable def f_iEdgeOk (n : Nat) : Int × (Int × Int) → Option ((Bool) × Unit) := runFn n E_iEdgeOk c_iEdgeOk [[.i .i64], [.i .i64, .i .i64]] [.b] [] [4] .no
noncomputable def g_iEdgeOk := f_iEdgeOk BIG
noncomputable def p_iEdgeOk : TSp := ⟨s_iEdgeOk, [[.i .i64], [.i .i64, .i .i64]], [.b], [], Ou.j .no, g_iEdgeOk⟩
theorem k_iEdgeOk : chkW PG E_iEdgeOk 113 s_iEdgeOk (c_iEdgeOk.ht 28) .no = some (c_iEdgeOk.wc E_iEdgeOk, [4]) := by kernel_rfl
theorem ok_iEdgeOk : p_iEdgeOk.Ok PG 113 := mkOk (env_cons ok_iin (env_nil PG)) k_iEdgeOk (by kernel_rfl)
theorem e_iEdgeOk (n : Nat) (a0 : Int) (a1 : Int × Int) : f_iEdgeOk n (a0, a1) =
  Option.bind (Option.bind (g_iin (a0, (1 : Int), (12 : Int))) fun r0 =>
   bif r0.1 then
    Option.bind (g_iin (a1.1, (0 : Int), IntKind.wrap .i64 (a0 - (1 : Int)))) fun r1 =>
    bif r1.1 then
     Option.bind (g_iin (a1.2, (0 : Int), IntKind.wrap .i64 (a0 - (1 : Int)))) fun r2 =>
     bif r2.1 then
      some (decide (a1.1 < a1.2))
     else some false
    else some false
   else some false : Option (Bool)) fun x3 =>
  some (x3, ()) := by kernel_rfl
/- impl.ahead -/
def c_iahead : TC :=
 (.seq (.rg [o1 2 (.a (.t 0)),
   o1 3 (.a (.t 1)),
   o1 4 (.lit [.b] [.bool false])])
 (.seq (.join [⟨4, [.b], false⟩] 16777200 none (.rg [o1 5 (.idx .nil),
   o1 6 (.load 2 [] 0 (.t 5) 1 false),
   o1 7 (.idx .nil),
   o1 8 (.load 3 [] 0 (.t 7) 1 false),
   o1 9 (.data (.bin .lss) [.t 6, .t 8]),
   o1 10 (.copy 9),
   o2 11 (.idx .nil) 5 false,
   o2 12 (.load 2 [] 0 (.t 11) 1 false) 5 false,
   o2 13 (.idx .nil) 5 false,
   o2 14 (.load 3 [] 0 (.t 13) 1 false) 5 false,
   o2 15 (.data (.bin .eql) [.t 12, .t 14]) 5 false,
   o2 16 (.copy 15) 5 false,
   o2 17 (.idx .nil) 11 true,
   o2 18 (.load 2 [] 1 (.t 17) 1 false) 11 true,
   o2 19 (.idx .nil) 11 true,
   o2 20 (.load 3 [] 1 (.t 19) 1 false) 11 true,
   o2 21 (.data (.bin .lss) [.t 18, .t 20]) 11 true,
   ⟨false, [], [], .pick 16 (.t 21) (.c (.bool false)), [22], (some 22), some (5, false)⟩,
   ⟨false, [], [], .pick 10 (.c (.bool true)) (.t 22), [23], (some 23), none⟩,
   o1 4 (.copy 23)]))
 .ret))
def s_iahead : Sig := ⟨[.rd true [.d, .d], .rd true [.d, .d]], (.one false [.d])⟩
noncomputable def E_iahead : TEnv := envOf []
noncomputable def f_iahead (n : Nat) : (Int × Int) × (Int × Int) → Option ((Bool) × Unit) := runFn n E_iahead c_iahead [[.i .i64, .i .i64], [.i .i64, .i .i64]] [.b] [] [4] .no
noncomputable def g_iahead := f_iahead BIG
noncomputable def p_iahead : TSp := ⟨s_iahead, [[.i .i64, .i .i64], [.i .i64, .i .i64]], [.b], [], Ou.j .no, g_iahead⟩
theorem k_iahead : chkW PG E_iahead 234 s_iahead (c_iahead.ht 24) .no = some (c_iahead.wc E_iahead, [4]) := by kernel_rfl
theorem ok_iahead : p_iahead.Ok PG 234 := mkOk (env_nil PG) k_iahead (by kernel_rfl)
theorem e_iahead (n : Nat) (a0 : Int × Int) (a1 : Int × Int) : f_iahead n (a0, a1) =
  Option.bind (bif decide (a0.1 < a1.1) then
    some true
   else bif decide (a0.1 = a1.1) then
    some (decide (a0.2 < a1.2))
   else some false : Option (Bool)) fun x0 =>
  some (x0, ()) := by kernel_rfl
/- impl.edgesOk -/
def c_iedgesOk : TC :=
 (.seq (.rg [o1 4 (.lit [.b] [.bool false])])
 (.seq (.join [] 8589934576 (some [⟨4, [.b], false⟩]) (.seq (.rg [o1 7 (.copy 1),
   o1 8 (.len 7),
   o1 9 (.lit [.i .i64] [.int .i64 (0)])])
 (.block 0 (.loop [⟨9, [.i .i64], false⟩] 8589934192
  (.seq (.rg [o1 10 (.data (.bin .lss) [.t 9, .t 8])])
  (.seq (.cond (.t 10)
   .skip
   (.exit 0))
  (.seq (.join [] 4294965360 (some [⟨4, [.b], false⟩]) (.block 1 (.seq (.rg [o1 11 (.copy 9),
    o1 12 (.index 7 (.t 9)),
    o1 13 (.load 7 [(0, 2)] 0 (.t 12) 2 false),
    ⟨false, [], [], .det 2 (.a (.c [.i .i64, .i .i64] [.int .i64 (0), .int .i64 (0)])), [6, 1000000001], (some 6), none⟩,
    o1 5 (.copy 11),
    o4 1 [6] (.store 6 [] 0 .nil (.t 13))])
  (.seq (.join [⟨31, [.b], false⟩] 4294950912 none (.rg [o1 14 (.copy 0),
    o1 15 (.load 6 [] 0 .nil 2 false),
    o3 16 113 [.t 14, .t 15],
    o1 17 (.data .not [.t 16]),
    o1 18 (.copy 17),
    o2 19 (.copy 5) 4 false,
    o2 20 (.data (.bin .gtr) [.t 19, .c (.int .i64 (0))]) 4 false,
    o2 21 (.copy 20) 4 false,
    o2 22 (.copy 1) 7 true,
    o2 23 (.copy 5) 7 true,
    o2 24 (.data (.bin .sub) [.t 23, .c (.int .i64 (1))]) 7 true,
    o2 25 (.index 22 (.t 24)) 7 true,
    o2 26 (.load 22 [(0, 2)] 0 (.t 25) 2 false) 7 true,
    o2 27 (.load 6 [] 0 .nil 2 false) 7 true,
    ⟨false, [], [], .call 1 234 [.t 26, .t 27] .no, [28], (some 28), some (7, true)⟩,
    o2 29 (.data .not [.t 28]) 7 true,
    ⟨false, [], [], .pick 21 (.t 29) (.c (.bool false)), [30], (some 30), some (4, false)⟩,
    ⟨false, [], [], .pick 18 (.c (.bool true)) (.t 30), [31], (some 31), none⟩]))
  (.cond (.t 31)
   (.seq (.rg [o1 4 (.lit [.b] [.bool false])])
   .ret)
   .skip)))))
  (.rg [o1 32 (.data (.bin .add) [.t 9, .c (.int .i64 (1))]),
    o1 9 (.copy 32)]))))))))
 (.seq (.rg [o1 33 (.copy 1),
   o1 34 (.len 33),
   o1 35 (.data (.bin .leq) [.t 34, .c (.int .i64 (66))]),
   o1 4 (.copy 35)])
 .ret)))
def s_iedgesOk : Sig := ⟨[.rd false [.d], .rd false [.sl (.own none) [.d, .d]]], (.one false [.d])⟩
noncomputable def E_iedgesOk : TEnv := envOf [(113, p_iEdgeOk), (234, p_iahead)]
noncomputable def f_iedgesOk (n : Nat) : Int × (List (Int × Int)) → Option ((Bool) × Unit) := runFn n E_iedgesOk c_iedgesOk [[.i .i64], [.sl [.i .i64, .i .i64]]] [.b] [] [4] .no
noncomputable def g_iedgesOk := f_iedgesOk BIG
noncomputable def p_iedgesOk : TSp := ⟨s_iedgesOk, [[.i .i64], [.sl [.i .i64, .i .i64]]], [.b], [], Ou.j .no, g_iedgesOk⟩
theorem k_iedgesOk : chkW PG E_iedgesOk 232 s_iedgesOk (c_iedgesOk.ht 36) .no = some (c_iedgesOk.wc E_iedgesOk, [4]) := by kernel_rfl
theorem ok_iedgesOk : p_iedgesOk.Ok PG 232 := mkOk (env_cons ok_iEdgeOk (env_cons ok_iahead (env_nil PG))) k_iedgesOk (by kernel_rfl)
theorem e_iedgesOk (n : Nat) (a0 : Int) (a1 : List (Int × Int)) : f_iedgesOk n (a0, a1) =
  Option.bind (loopT n (X := Int) (B := (Unit) ⊕ (Bool)) (fun self1 x0 =>
    bif decide (x0 < (a1.length : Int)) then
     Option.bind (bnd a1.length x0 fun n2 =>
      Option.bind a1[n2]? fun y3 =>
      Option.bind (Option.bind (g_iEdgeOk (a0, y3)) fun r4 =>
       bif !r4.1 then
        some true
       else bif decide ((0 : Int) < x0) then
        bnd a1.length (IntKind.wrap .i64 (x0 - (1 : Int))) fun n5 =>
        Option.bind a1[n5]? fun y6 =>
        Option.bind (g_iahead (y6, y3)) fun r7 =>
        some !r7.1
       else some false : Option (Bool)) fun x8 =>
      bif x8 then
       some (Sum.inr false)
      else some (Sum.inl ()) : Option ((Unit) ⊕ (Bool))) fun y => match y with
     | .inl x9 =>
      self1 (IntKind.wrap .i64 (x0 + (1 : Int)))
     | .inr x9 =>
      some (Sum.inr x9)
    else some (Sum.inl ())) (0 : Int) : Option ((Unit) ⊕ (Bool))) fun y => match y with
  | .inl x10 =>
   some (decide ((a1.length : Int) ≤ (66 : Int)), ())
  | .inr x10 =>
   some (x10, ()) := by kernel_rfl
/- impl.ownOk -/
def c_iownOk : TC :=
 (.seq (.rg [o1 1 (.a (.t 0)),
   o1 2 (.lit [.b] [.bool false])])
 (.seq (.seq (.join [⟨20, [.b], false⟩] 2097024 none (.rg [o1 7 (.idx .nil),
   o1 8 (.load 1 [] 1 (.t 7) 1 false),
   o1 9 (.len 8),
   o1 10 (.idx .nil),
   o1 11 (.load 1 [] 0 (.t 10) 1 false),
   o1 12 (.data (.bin .neq) [.t 9, .t 11]),
   o1 13 (.copy 12),
   o2 14 (.idx .nil) 6 false,
   o2 15 (.load 1 [] 0 (.t 14) 1 false) 6 false,
   o2 16 (.idx .nil) 6 false,
   o2 17 (.load 1 [] 2 (.t 16) 1 false) 6 false,
   ⟨false, [], [], .call 1 232 [.t 15, .t 17] .no, [18], (some 18), some (6, false)⟩,
   o2 19 (.data .not [.t 18]) 6 false,
   ⟨false, [], [], .pick 13 (.c (.bool true)) (.t 19), [20], (some 20), none⟩]))
 (.cond (.t 20)
  (.seq (.rg [o1 2 (.lit [.b] [.bool false])])
  .ret)
  .skip))
 (.seq (.join [] 34357641236 (some [⟨2, [.b], false⟩]) (.seq (.rg [o1 21 (.idx .nil),
   o1 22 (.load 1 [] 1 (.t 21) 1 false),
   o1 23 (.len 22),
   o1 24 (.lit [.i .i64] [.int .i64 (0)])])
 (.block 0 (.loop [⟨24, [.i .i64], false⟩] 34342961172
  (.seq (.rg [o1 25 (.data (.bin .lss) [.t 24, .t 23])])
  (.seq (.cond (.t 25)
   .skip
   (.exit 0))
  (.seq (.block 1 (.seq (.rg [o1 26 (.index 22 (.t 24)),
    o1 27 (.load 22 [(0, 1)] 0 (.t 26) 1 false),
    o1 4 (.copy 27)])
  (.seq (.rg [o1 28 (.copy 4),
    o1 29 (.idx .nil),
    o1 30 (.load 1 [] 3 (.t 29) 1 false),
    o1 31 (.len 30),
    o3 32 101 [.t 28, .c [.i .i64] [.int .i64 (1)], .t 31],
    o1 33 (.data .not [.t 32])])
  (.cond (.t 33)
   (.seq (.rg [o1 2 (.lit [.b] [.bool false])])
   .ret)
   .skip))))
  (.rg [o1 34 (.data (.bin .add) [.t 24, .c (.int .i64 (1))]),
    o1 24 (.copy 34)]))))))))
 (.seq (.join [] 72057559678189636 (some [⟨2, [.b], false⟩]) (.seq (.rg [o1 35 (.idx .nil),
   o1 36 (.load 1 [] 2 (.t 35) 1 false),
   o1 37 (.len 36),
   o1 38 (.lit [.i .i64] [.int .i64 (0)])])
 (.block 2 (.loop [⟨38, [.i .i64], false⟩] 72057319160021060
  (.seq (.rg [o1 39 (.data (.bin .lss) [.t 38, .t 37])])
  (.seq (.cond (.t 39)
   .skip
   (.exit 2))
  (.seq (.block 3 (.seq (.rg [o1 40 (.index 36 (.t 38)),
    o1 41 (.load 36 [(0, 2)] 0 (.t 40) 2 false),
    ⟨false, [], [], .det 2 (.a (.c [.i .i64, .i .i64] [.int .i64 (0), .int .i64 (0)])), [6, 1000000001], (some 6), none⟩,
    o4 1 [6] (.store 6 [] 0 .nil (.t 41))])
  (.seq (.rg [o1 42 (.idx .nil),
    o1 43 (.load 1 [] 1 (.t 42) 1 false),
    o1 44 (.idx .nil),
    o1 45 (.load 6 [] 0 (.t 44) 1 false),
    o1 46 (.index 43 (.t 45)),
    o1 47 (.load 43 [(0, 1)] 0 (.t 46) 1 false),
    o1 48 (.idx .nil),
    o1 49 (.load 1 [] 1 (.t 48) 1 false),
    o1 50 (.idx .nil),
    o1 51 (.load 6 [] 1 (.t 50) 1 false),
    o1 52 (.index 49 (.t 51)),
    o1 53 (.load 49 [(0, 1)] 0 (.t 52) 1 false),
    o1 54 (.data (.bin .eql) [.t 47, .t 53])])
  (.cond (.t 54)
   (.seq (.rg [o1 2 (.lit [.b] [.bool false])])
   .ret)
   .skip))))
  (.rg [o1 55 (.data (.bin .add) [.t 38, .c (.int .i64 (1))]),
    o1 38 (.copy 55)]))))))))
 (.seq (.rg [o1 2 (.lit [.b] [.bool true])])
 .ret)))))
def s_iownOk : Sig := ⟨[.rd true [.d, .sl (.own none) [.d], .sl (.own none) [.d, .d], .sl (.own none) [.sl (.own none) [.d]], .sl (.own none) [.d], .d, .d, .d, .d, .d, .d, .d, .sl (.own none) [.d, .d], .d, .sl (.own none) [.d, .d, .d, .d, .d, .d]]], (.one false [.d])⟩
noncomputable def E_iownOk : TEnv := envOf [(232, p_iedgesOk), (101, p_iin)]
noncomputable def f_iownOk (n : Nat) : (Int × List (Int) × List (Int × Int) × List (List (Int)) × List (Int) × Int × Int × Int × Int × Int × Int × Int × List (Int × Int) × Int × List (Int × Int × Int × Int × Int × Int)) → Option ((Bool) × Unit) := runFn n E_iownOk c_iownOk [[.i .i64, .sl [.i .i64], .sl [.i .i64, .i .i64], .sl [.sl [.i .i64]], .sl [.i .i64], .i .i64, .i .i64, .i .i64, .i .i64, .i .i64, .i .i64, .i .i64, .sl [.i .i64, .i .i64], .i .i64, .sl [.i .i64, .i .i64, .i .i64, .i .i64, .i .i64, .i .i64]]] [.b] [] [2] .no
noncomputable def g_iownOk := f_iownOk BIG
noncomputable def p_iownOk : TSp := ⟨s_iownOk, [[.i .i64, .sl [.i .i64], .sl [.i .i64, .i .i64], .sl [.sl [.i .i64]], .sl [.i .i64], .i .i64, .i .i64, .i .i64, .i .i64, .i .i64, .i .i64, .i .i64, .sl [.i .i64, .i .i64], .i .i64, .sl [.i .i64, .i .i64, .i .i64, .i .i64, .i .i64, .i .i64]]], [.b], [], Ou.j .no, g_iownOk⟩
theorem k_iownOk : chkW PG E_iownOk 124 s_iownOk (c_iownOk.ht 56) .no = some (c_iownOk.wc E_iownOk, [2]) := by kernel_rfl
theorem ok_iownOk : p_iownOk.Ok PG 124 := mkOk (env_cons ok_iedgesOk (env_cons ok_iin (env_nil PG))) k_iownOk (by kernel_rfl)
theorem e_iownOk (n : Nat) (a0 : Int × List (Int) × List (Int × Int) × List ((List (Int))) × List (Int) × Int × Int × Int × Int × Int × Int × Int × List (Int × Int) × Int × List (Int × Int × Int × Int × Int × Int)) : f_iownOk n a0 =
  Option.bind (bif !decide ((a0.2.1.length : Int) = a0.1) then
    some true
   else Option.bind (g_iedgesOk (a0.1, a0.2.2.1)) fun r0 =>
   some !r0.1 : Option (Bool)) fun x1 =>
  bif x1 then
   some (false, ())
  else Option.bind (loopT n (X := Int) (B := (Unit) ⊕ (Bool)) (fun self3 x2 =>
    bif decide (x2 < (a0.2.1.length : Int)) then
     bnd a0.2.1.length x2 fun n4 =>
     Option.bind a0.2.1[n4]? fun y5 =>
     Option.bind (g_iin (y5, (1 : Int), (a0.2.2.2.1.length : Int))) fun r6 =>
     bif !r6.1 then
      some (Sum.inr false)
     else self3 (IntKind.wrap .i64 (x2 + (1 : Int)))
    else some (Sum.inl ())) (0 : Int) : Option ((Unit) ⊕ (Bool))) fun y => match y with
  | .inl x7 =>
   Option.bind (loopT n (X := Int) (B := (Unit) ⊕ (Bool)) (fun self9 x8 =>
     bif decide (x8 < (a0.2.2.1.length : Int)) then
      bnd a0.2.2.1.length x8 fun n10 =>
      Option.bind a0.2.2.1[n10]? fun y11 =>
      bnd a0.2.1.length y11.1 fun n12 =>
      Option.bind a0.2.1[n12]? fun y13 =>
      bnd a0.2.1.length y11.2 fun n14 =>
      Option.bind a0.2.1[n14]? fun y15 =>
      bif decide (y13 = y15) then
       some (Sum.inr false)
      else self9 (IntKind.wrap .i64 (x8 + (1 : Int)))
     else some (Sum.inl ())) (0 : Int) : Option ((Unit) ⊕ (Bool))) fun y => match y with
   | .inl x16 =>
    some (true, ())
   | .inr x16 =>
    some (x16, ())
  | .inr x7 =>
   some (x7, ()) := by kernel_rfl
/- impl.saidAt -/
def c_isaidAt : TC :=
 (.seq (.rg [o1 4 (.lit [.i .i64] [.int .i64 (0)])])
 (.seq (.join [] 1048560 (some [⟨4, [.i .i64], false⟩]) (.seq (.rg [o1 7 (.copy 0),
   o1 8 (.len 7),
   o1 9 (.lit [.i .i64] [.int .i64 (0)])])
 (.block 0 (.loop [⟨9, [.i .i64], false⟩] 1048176
  (.seq (.rg [o1 10 (.data (.bin .lss) [.t 9, .t 8])])
  (.seq (.cond (.t 10)
   .skip
   (.exit 0))
  (.seq (.block 1 (.seq (.rg [o1 11 (.copy 9),
    o1 12 (.index 7 (.t 9)),
    o1 13 (.load 7 [(0, 6)] 0 (.t 12) 6 false),
    ⟨false, [], [], .det 2 (.a (.c [.i .i64, .i .i64, .i .i64, .i .i64, .i .i64, .i .i64] [.int .i64 (0), .int .i64 (0), .int .i64 (0), .int .i64 (0), .int .i64 (0), .int .i64 (0)])), [6, 1000000001], (some 6), none⟩,
    o1 5 (.copy 11),
    o4 1 [6] (.store 6 [] 0 .nil (.t 13))])
  (.seq (.rg [o1 14 (.idx .nil),
    o1 15 (.load 6 [] 0 (.t 14) 1 false),
    o1 16 (.copy 1),
    o1 17 (.data (.bin .eql) [.t 15, .t 16])])
  (.cond (.t 17)
   (.seq (.rg [o1 18 (.copy 5),
     o1 4 (.copy 18)])
   .ret)
   .skip))))
  (.rg [o1 19 (.data (.bin .add) [.t 9, .c (.int .i64 (1))]),
    o1 9 (.copy 19)]))))))))
 (.seq (.rg [o1 4 (.lit [.i .i64] [.int .i64 (-1)])])
 .ret)))
def s_isaidAt : Sig := ⟨[.rd false [.sl (.own none) [.d, .d, .d, .d, .d, .d]], .rd false [.d]], (.one false [.d])⟩
noncomputable def E_isaidAt : TEnv := envOf []
noncomputable def f_isaidAt (n : Nat) : (List (Int × Int × Int × Int × Int × Int)) × Int → Option ((Int) × Unit) := runFn n E_isaidAt c_isaidAt [[.sl [.i .i64, .i .i64, .i .i64, .i .i64, .i .i64, .i .i64]], [.i .i64]] [.i .i64] [] [4] .no
noncomputable def g_isaidAt := f_isaidAt BIG
noncomputable def p_isaidAt : TSp := ⟨s_isaidAt, [[.sl [.i .i64, .i .i64, .i .i64, .i .i64, .i .i64, .i .i64]], [.i .i64]], [.i .i64], [], Ou.j .no, g_isaidAt⟩
theorem k_isaidAt : chkW PG E_isaidAt 121 s_isaidAt (c_isaidAt.ht 20) .no = some (c_isaidAt.wc E_isaidAt, [4]) := by kernel_rfl
theorem ok_isaidAt : p_isaidAt.Ok PG 121 := mkOk (env_nil PG) k_isaidAt (by kernel_rfl)
theorem e_isaidAt (n : Nat) (a0 : List (Int × Int × Int × Int × Int × Int)) (a1 : Int) : f_isaidAt n (a0, a1) =
  Option.bind (loopT n (X := Int) (B := (Unit) ⊕ (Int)) (fun self1 x0 =>
    bif decide (x0 < (a0.length : Int)) then
     bnd a0.length x0 fun n2 =>
     Option.bind a0[n2]? fun y3 =>
     bif decide (y3.1 = a1) then
      some (Sum.inr x0)
     else self1 (IntKind.wrap .i64 (x0 + (1 : Int)))
    else some (Sum.inl ())) (0 : Int) : Option ((Unit) ⊕ (Int))) fun y => match y with
  | .inl x4 =>
   some ((-1 : Int), ())
  | .inr x4 =>
   some (x4, ()) := by kernel_rfl
/- impl.saidOk -/
def c_isaidOk : TC :=
 (.seq (.rg [o1 2 (.lit [.b] [.bool false])])
 (.seq (.join [] 17179869180 (some [⟨2, [.b], false⟩]) (.seq (.rg [o1 5 (.copy 0),
   o1 6 (.len 5),
   o1 7 (.lit [.i .i64] [.int .i64 (0)])])
 (.block 0 (.loop [⟨7, [.i .i64], false⟩] 17179869084
  (.seq (.rg [o1 8 (.data (.bin .lss) [.t 7, .t 6])])
  (.seq (.cond (.t 8)
   .skip
   (.exit 0))
  (.seq (.join [] 8589934108 (some [⟨2, [.b], false⟩]) (.block 1 (.seq (.rg [o1 9 (.copy 7),
    o1 10 (.index 5 (.t 7)),
    o1 11 (.load 5 [(0, 6)] 0 (.t 10) 6 false),
    ⟨false, [], [], .det 2 (.a (.c [.i .i64, .i .i64, .i .i64, .i .i64, .i .i64, .i .i64] [.int .i64 (0), .int .i64 (0), .int .i64 (0), .int .i64 (0), .int .i64 (0), .int .i64 (0)])), [4, 1000000001], (some 4), none⟩,
    o1 3 (.copy 9),
    o4 1 [4] (.store 4 [] 0 .nil (.t 11))])
  (.seq (.join [⟨32, [.b], false⟩] 8589930496 none (.rg [o1 12 (.idx .nil),
    o1 13 (.load 4 [] 0 (.t 12) 1 false),
    o1 14 (.idx .nil),
    o1 15 (.idx (.t 14)),
    o1 16 (.load 4 [] 1 (.t 15) 1 false),
    o1 17 (.data (.bin .neq) [.t 13, .t 16]),
    o1 18 (.copy 17),
    o2 19 (.idx .nil) 6 false,
    o2 20 (.load 4 [] 5 (.t 19) 1 false) 6 false,
    ⟨false, [], [], .call 1 101 [.t 20, .c [.i .i64] [.int .i64 (1)], .c [.i .i64] [.int .i64 (3)]] .no, [21], (some 21), some (6, false)⟩,
    o2 22 (.data .not [.t 21]) 6 false,
    ⟨false, [], [], .pick 18 (.c (.bool true)) (.t 22), [23], (some 23), none⟩,
    o1 24 (.copy 23),
    o2 25 (.copy 0) 12 false,
    o2 26 (.copy 3) 12 false,
    o2 27 (.res 25 none (some (.t 26))) 12 false,
    o2 28 (.idx .nil) 12 false,
    o2 29 (.load 4 [] 0 (.t 28) 1 false) 12 false,
    ⟨false, [], [], .call 1 121 [.t 27, .t 29] .no, [30], (some 30), some (12, false)⟩,
    o2 31 (.data (.bin .geq) [.t 30, .c (.int .i64 (0))]) 12 false,
    ⟨false, [], [], .pick 24 (.c (.bool true)) (.t 31), [32], (some 32), none⟩]))
  (.cond (.t 32)
   (.seq (.rg [o1 2 (.lit [.b] [.bool false])])
   .ret)
   .skip)))))
  (.rg [o1 33 (.data (.bin .add) [.t 7, .c (.int .i64 (1))]),
    o1 7 (.copy 33)]))))))))
 (.seq (.rg [o1 34 (.copy 0),
   o1 35 (.len 34),
   o1 36 (.data (.bin .leq) [.t 35, .c (.int .i64 (80))]),
   o1 2 (.copy 36)])
 .ret)))
def s_isaidOk : Sig := ⟨[.rd false [.sl (.own none) [.d, .d, .d, .d, .d, .d]]], (.one false [.d])⟩
noncomputable def E_isaidOk : TEnv := envOf [(101, p_iin), (121, p_isaidAt)]
noncomputable def f_isaidOk (n : Nat) : (List (Int × Int × Int × Int × Int × Int)) → Option ((Bool) × Unit) := runFn n E_isaidOk c_isaidOk [[.sl [.i .i64, .i .i64, .i .i64, .i .i64, .i .i64, .i .i64]]] [.b] [] [2] .no
noncomputable def g_isaidOk := f_isaidOk BIG
noncomputable def p_isaidOk : TSp := ⟨s_isaidOk, [[.sl [.i .i64, .i .i64, .i .i64, .i .i64, .i .i64, .i .i64]]], [.b], [], Ou.j .no, g_isaidOk⟩
theorem k_isaidOk : chkW PG E_isaidOk 125 s_isaidOk (c_isaidOk.ht 37) .no = some (c_isaidOk.wc E_isaidOk, [2]) := by kernel_rfl
theorem ok_isaidOk : p_isaidOk.Ok PG 125 := mkOk (env_cons ok_iin (env_cons ok_isaidAt (env_nil PG))) k_isaidOk (by kernel_rfl)
theorem e_isaidOk (n : Nat) (a0 : List (Int × Int × Int × Int × Int × Int)) : f_isaidOk n a0 =
  Option.bind (loopT n (X := Int) (B := (Unit) ⊕ (Bool)) (fun self1 x0 =>
    bif decide (x0 < (a0.length : Int)) then
     Option.bind (bnd a0.length x0 fun n2 =>
      Option.bind a0[n2]? fun y3 =>
      Option.bind (bif !decide (y3.1 = y3.2.1) then
        some true
       else Option.bind (g_iin (y3.2.2.2.2.2, (1 : Int), (3 : Int))) fun r4 =>
       bif !r4.1 then
        some true
       else bif decide (0 ≤ x0) then
        bif decide (0 ≤ (Int.toNat x0) ∧ (Int.toNat x0) ≤ a0.length) then
         Option.bind (g_isaidAt (List.take ((Int.toNat x0) - 0) (List.drop 0 a0), y3.1)) fun r5 =>
         some (decide ((0 : Int) ≤ r5.1))
        else none
       else none : Option (Bool)) fun x6 =>
      bif x6 then
       some (Sum.inr false)
      else some (Sum.inl ()) : Option ((Unit) ⊕ (Bool))) fun y => match y with
     | .inl x7 =>
      self1 (IntKind.wrap .i64 (x0 + (1 : Int)))
     | .inr x7 =>
      some (Sum.inr x7)
    else some (Sum.inl ())) (0 : Int) : Option ((Unit) ⊕ (Bool))) fun y => match y with
  | .inl x8 =>
   some (decide ((a0.length : Int) ≤ (80 : Int)), ())
  | .inr x8 =>
   some (x8, ()) := by kernel_rfl
/- impl.noTask -/
def c_inoTask : TC :=
 (.seq (.rg [o1 1 (.a (.t 0)),
   o1 2 (.lit [.b] [.bool false])])
 (.seq (.rg [o1 4 (.idx .nil),
   o1 5 (.load 1 [] 5 (.t 4) 4 false),
   ⟨false, [], [], .det 2 (.a (.c [.i .i64, .i .i64, .sl [.i .i64, .i .i64], .i .i64] [.int .i64 (0), .int .i64 (0), .slice none 0 0, .int .i64 (0)])), [3, 1000000001], (some 3), none⟩,
   o4 1 [3] (.store 3 [] 0 .nil (.t 5))])
 (.seq (.join [⟨2, [.b], false⟩] 68719476676 none (.rg [o1 6 (.idx .nil),
   o1 7 (.load 1 [] 0 (.t 6) 4 false),
   o1 8 (.build [.i .i64, .i .i64, .i .i64, .i .i64] []),
   o1 9 (.eqA [.i, .i, .i, .i] (.t 7) (.t 8) false),
   o1 10 (.copy 9),
   o2 11 (.idx .nil) 4 true,
   o2 12 (.load 1 [] 4 (.t 11) 1 false) 4 true,
   o2 13 (.data (.bin .eql) [.t 12, .c (.int .i64 (0))]) 4 true,
   ⟨false, [], [], .pick 10 (.t 13) (.c (.bool false)), [14], (some 14), none⟩,
   o1 15 (.copy 14),
   o2 16 (.idx .nil) 9 true,
   o2 17 (.load 3 [] 0 (.t 16) 1 false) 9 true,
   o2 18 (.data (.bin .eql) [.t 17, .c (.int .i64 (0))]) 9 true,
   ⟨false, [], [], .pick 15 (.t 18) (.c (.bool false)), [19], (some 19), none⟩,
   o1 20 (.copy 19),
   o2 21 (.idx .nil) 14 true,
   o2 22 (.load 3 [] 1 (.t 21) 1 false) 14 true,
   o2 23 (.data (.bin .eql) [.t 22, .c (.int .i64 (0))]) 14 true,
   ⟨false, [], [], .pick 20 (.t 23) (.c (.bool false)), [24], (some 24), none⟩,
   o1 25 (.copy 24),
   o2 26 (.idx .nil) 19 true,
   o2 27 (.load 3 [] 2 (.t 26) 1 false) 19 true,
   o2 28 (.len 27) 19 true,
   o2 29 (.data (.bin .eql) [.t 28, .c (.int .i64 (0))]) 19 true,
   ⟨false, [], [], .pick 25 (.t 29) (.c (.bool false)), [30], (some 30), none⟩,
   o1 31 (.copy 30),
   o2 32 (.idx .nil) 25 true,
   o2 33 (.load 3 [] 3 (.t 32) 1 false) 25 true,
   o2 34 (.data (.bin .eql) [.t 33, .c (.int .i64 (0))]) 25 true,
   ⟨false, [], [], .pick 31 (.t 34) (.c (.bool false)), [35], (some 35), none⟩,
   o1 2 (.copy 35)]))
 .ret)))
def s_inoTask : Sig := ⟨[.rd true [.d, .d, .d, .d, .d, .d, .d, .sl (.own none) [.d, .d], .d]], (.one false [.d])⟩
noncomputable def E_inoTask : TEnv := envOf []
noncomputable def f_inoTask (n : Nat) : (Int × Int × Int × Int × Int × Int × Int × List (Int × Int) × Int) → Option ((Bool) × Unit) := runFn n E_inoTask c_inoTask [[.i .i64, .i .i64, .i .i64, .i .i64, .i .i64, .i .i64, .i .i64, .sl [.i .i64, .i .i64], .i .i64]] [.b] [] [2] .no
noncomputable def g_inoTask := f_inoTask BIG
noncomputable def p_inoTask : TSp := ⟨s_inoTask, [[.i .i64, .i .i64, .i .i64, .i .i64, .i .i64, .i .i64, .i .i64, .sl [.i .i64, .i .i64], .i .i64]], [.b], [], Ou.j .no, g_inoTask⟩
theorem k_inoTask : chkW PG E_inoTask 240 s_inoTask (c_inoTask.ht 36) .no = some (c_inoTask.wc E_inoTask, [2]) := by kernel_rfl
theorem ok_inoTask : p_inoTask.Ok PG 240 := mkOk (env_nil PG) k_inoTask (by kernel_rfl)
theorem e_inoTask (n : Nat) (a0 : Int × Int × Int × Int × Int × Int × Int × List (Int × Int) × Int) : f_inoTask n a0 =
  Option.bind (bif (decide (a0.1 = (0 : Int)) && (decide (a0.2.1 = (0 : Int)) && (decide (a0.2.2.1 = (0 : Int)) && (decide (a0.2.2.2.1 = (0 : Int)) && true)))) then
    bif decide (a0.2.2.2.2.1 = (0 : Int)) then
     bif decide (a0.2.2.2.2.2.1 = (0 : Int)) then
      bif decide (a0.2.2.2.2.2.2.1 = (0 : Int)) then
       bif decide ((a0.2.2.2.2.2.2.2.1.length : Int) = (0 : Int)) then
        some (decide (a0.2.2.2.2.2.2.2.2 = (0 : Int)))
       else some false
      else some false
     else some false
    else some false
   else some false : Option (Bool)) fun x0 =>
  some (x0, ()) := by kernel_rfl
/- impl.badAsk -/
def c_ibadAsk : TC :=
 (.seq (.rg [o1 2 (.a (.t 0)),
   o1 3 (.a (.t 1)),
   o1 4 (.lit [.b] [.bool false])])
 (.seq (.rg [o1 7 (.idx .nil),
   o1 8 (.load 2 [] 0 (.t 7) 1 false),
   o1 9 (.data (.bin .sub) [.t 8, .c (.int .i64 (1))]),
   o1 5 (.copy 9)])
 (.seq (.rg [o1 6 (.lit [.i .i64] [.int .i64 (0)])])
 (.seq (.join [⟨6, [.i .i64], false⟩, ⟨5, [.i .i64], false⟩] 64608 none (.seq (.rg [o1 10 (.idx .nil),
   o1 11 (.load 3 [] 1 (.t 10) 1 false),
   o1 12 (.data (.bin .eql) [.t 11, .c (.int .i64 (4))])])
 (.cond (.t 12)
  (.rg [o1 13 (.idx .nil),
    o1 14 (.load 2 [] 3 (.t 13) 1 false),
    o1 15 (.len 14),
    o1 6 (.lit [.i .i64] [.int .i64 (1)]),
    o1 5 (.copy 15)])
  .skip)))
 (.seq (.seq (.join [⟨36, [.b], false⟩] 137438887936 none (.rg [o1 16 (.idx .nil),
   o1 17 (.load 3 [] 1 (.t 16) 1 false),
   o3 18 101 [.t 17, .c [.i .i64] [.int .i64 (1)], .c [.i .i64] [.int .i64 (4)]],
   o1 19 (.data .not [.t 18]),
   o1 20 (.copy 19),
   o2 21 (.idx .nil) 4 false,
   o2 22 (.load 3 [] 2 (.t 21) 1 false) 4 false,
   o2 23 (.idx .nil) 4 false,
   o2 24 (.load 2 [] 0 (.t 23) 1 false) 4 false,
   o2 25 (.data (.bin .sub) [.t 24, .c (.int .i64 (1))]) 4 false,
   ⟨false, [], [], .call 1 101 [.t 22, .c [.i .i64] [.int .i64 (0)], .t 25] .no, [26], (some 26), some (4, false)⟩,
   o2 27 (.data .not [.t 26]) 4 false,
   ⟨false, [], [], .pick 20 (.c (.bool true)) (.t 27), [28], (some 28), none⟩,
   o1 29 (.copy 28),
   o2 30 (.idx .nil) 13 false,
   o2 31 (.load 3 [] 3 (.t 30) 1 false) 13 false,
   o2 32 (.copy 6) 13 false,
   o2 33 (.copy 5) 13 false,
   ⟨false, [], [], .call 1 101 [.t 31, .t 32, .t 33] .no, [34], (some 34), some (13, false)⟩,
   o2 35 (.data .not [.t 34]) 13 false,
   ⟨false, [], [], .pick 29 (.c (.bool true)) (.t 35), [36], (some 36), none⟩]))
 (.cond (.t 36)
  (.seq (.rg [o1 4 (.lit [.b] [.bool true])])
  .ret)
  .skip))
 (.seq (.join [⟨4, [.b], false⟩] 4503462188417040 none (.rg [o1 37 (.idx .nil),
   o1 38 (.load 3 [] 2 (.t 37) 1 false),
   o1 39 (.idx .nil),
   o1 40 (.load 3 [] 3 (.t 39) 1 false),
   o1 41 (.data (.bin .eql) [.t 38, .t 40]),
   o1 42 (.copy 41),
   o2 43 (.idx .nil) 5 true,
   o2 44 (.load 3 [] 1 (.t 43) 1 false) 5 true,
   o2 45 (.data (.bin .eql) [.t 44, .c (.int .i64 (1))]) 5 true,
   o2 46 (.copy 45) 5 true,
   o2 47 (.idx .nil) 9 false,
   o2 48 (.load 3 [] 1 (.t 47) 1 false) 9 false,
   o2 49 (.data (.bin .eql) [.t 48, .c (.int .i64 (2))]) 9 false,
   ⟨false, [], [], .pick 46 (.c (.bool true)) (.t 49), [50], (some 50), some (5, true)⟩,
   ⟨false, [], [], .pick 42 (.t 50) (.c (.bool false)), [51], (some 51), none⟩,
   o1 4 (.copy 51)]))
 .ret))))))
def s_ibadAsk : Sig := ⟨[.rd true [.d, .sl (.own none) [.d], .sl (.own none) [.d, .d], .sl (.own none) [.sl (.own none) [.d]], .sl (.own none) [.d], .d, .d, .d, .d, .d, .d, .d, .sl (.own none) [.d, .d], .d, .sl (.own none) [.d, .d, .d, .d, .d, .d]], .rd true [.d, .d, .d, .d]], (.one false [.d])⟩
noncomputable def E_ibadAsk : TEnv := envOf [(101, p_iin)]
noncomputable def f_ibadAsk (n : Nat) : (Int × List (Int) × List (Int × Int) × List (List (Int)) × List (Int) × Int × Int × Int × Int × Int × Int × Int × List (Int × Int) × Int × List (Int × Int × Int × Int × Int × Int)) × (Int × Int × Int × Int) → Option ((Bool) × Unit) := runFn n E_ibadAsk c_ibadAsk [[.i .i64, .sl [.i .i64], .sl [.i .i64, .i .i64], .sl [.sl [.i .i64]], .sl [.i .i64], .i .i64, .i .i64, .i .i64, .i .i64, .i .i64, .i .i64, .i .i64, .sl [.i .i64, .i .i64], .i .i64, .sl [.i .i64, .i .i64, .i .i64, .i .i64, .i .i64, .i .i64]], [.i .i64, .i .i64, .i .i64, .i .i64]] [.b] [] [4] .no
noncomputable def g_ibadAsk := f_ibadAsk BIG
noncomputable def p_ibadAsk : TSp := ⟨s_ibadAsk, [[.i .i64, .sl [.i .i64], .sl [.i .i64, .i .i64], .sl [.sl [.i .i64]], .sl [.i .i64], .i .i64, .i .i64, .i .i64, .i .i64, .i .i64, .i .i64, .i .i64, .sl [.i .i64, .i .i64], .i .i64, .sl [.i .i64, .i .i64, .i .i64, .i .i64, .i .i64, .i .i64]], [.i .i64, .i .i64, .i .i64, .i .i64]], [.b], [], Ou.j .no, g_ibadAsk⟩
theorem k_ibadAsk : chkW PG E_ibadAsk 237 s_ibadAsk (c_ibadAsk.ht 52) .no = some (c_ibadAsk.wc E_ibadAsk, [4]) := by kernel_rfl
theorem ok_ibadAsk : p_ibadAsk.Ok PG 237 := mkOk (env_cons ok_iin (env_nil PG)) k_ibadAsk (by kernel_rfl)
theorem e_ibadAsk (n : Nat) (a0 : Int × List (Int) × List (Int × Int) × List ((List (Int))) × List (Int) × Int × Int × Int × Int × Int × Int × Int × List (Int × Int) × Int × List (Int × Int × Int × Int × Int × Int)) (a1 : Int × Int × Int × Int) : f_ibadAsk n (a0, a1) =
  Option.bind (bif decide (a1.2.1 = (4 : Int)) then
    some ((1 : Int), (a0.2.2.2.1.length : Int))
   else some ((0 : Int), IntKind.wrap .i64 (a0.1 - (1 : Int))) : Option (Int × Int)) fun x0 =>
  Option.bind (Option.bind (g_iin (a1.2.1, (1 : Int), (4 : Int))) fun r1 =>
   bif !r1.1 then
    some true
   else Option.bind (g_iin (a1.2.2.1, (0 : Int), IntKind.wrap .i64 (a0.1 - (1 : Int)))) fun r2 =>
   bif !r2.1 then
    some true
   else Option.bind (g_iin (a1.2.2.2, x0.1, x0.2)) fun r3 =>
   some !r3.1 : Option (Bool)) fun x4 =>
  bif x4 then
   some (true, ())
  else Option.bind (bif decide (a1.2.2.1 = a1.2.2.2) then
    bif decide (a1.2.1 = (1 : Int)) then
     some true
    else some (decide (a1.2.1 = (2 : Int)))
   else some false : Option (Bool)) fun x5 =>
  some (x5, ()) := by kernel_rfl
/- impl.OrderOk -/
def c_iOrderOk : TC :=
 (.seq (.rg [o1 3 (.a (.t 1)),
   o1 4 (.lit [.b] [.bool false])])
 (.seq (.seq (.join [⟨30, [.b], false⟩] 2147483616 none (.rg [o1 5 (.copy 0),
   o3 6 101 [.t 5, .c [.i .i64] [.int .i64 (1)], .c [.i .i64] [.int .i64 (12)]],
   o1 7 (.data .not [.t 6]),
   o1 8 (.copy 7),
   o2 9 (.idx .nil) 3 false,
   o2 10 (.load 3 [] 0 (.t 9) 1 false) 3 false,
   ⟨false, [], [], .call 1 101 [.t 10, .c [.i .i64] [.int .i64 (1)], .c [.i .i64] [.int .i64 (100000)]] .no, [11], (some 11), some (3, false)⟩,
   o2 12 (.data .not [.t 11]) 3 false,
   ⟨false, [], [], .pick 8 (.c (.bool true)) (.t 12), [13], (some 13), none⟩,
   o1 14 (.copy 13),
   o2 15 (.copy 0) 9 false,
   o2 16 (.idx .nil) 9 false,
   o2 17 (.load 3 [] 2 (.t 16) 1 false) 9 false,
   ⟨false, [], [], .call 1 232 [.t 15, .t 17] .no, [18], (some 18), some (9, false)⟩,
   o2 19 (.data .not [.t 18]) 9 false,
   ⟨false, [], [], .pick 14 (.c (.bool true)) (.t 19), [20], (some 20), none⟩,
   o1 21 (.copy 20),
   o2 22 (.idx .nil) 16 false,
   o2 23 (.load 3 [] 3 (.t 22) 1 false) 16 false,
   o2 24 (.data (.bin .neq) [.t 23, .c (.int .i64 (0))]) 16 false,
   o2 25 (.copy 24) 16 false,
   o2 26 (.idx .nil) 20 true,
   o2 27 (.load 3 [] 1 (.t 26) 1 false) 20 true,
   o2 28 (.data (.bin .neq) [.t 27, .c (.int .i64 (3))]) 20 true,
   ⟨false, [], [], .pick 25 (.t 28) (.c (.bool false)), [29], (some 29), some (16, false)⟩,
   ⟨false, [], [], .pick 21 (.c (.bool true)) (.t 29), [30], (some 30), none⟩]))
 (.cond (.t 30)
  (.seq (.rg [o1 4 (.lit [.b] [.bool false])])
  .ret)
  .skip))
 (.seq (.join [] 576460750155939856 (some [⟨4, [.b], false⟩]) (.seq (.rg [o1 31 (.idx .nil),
   o1 32 (.load 3 [] 1 (.t 31) 1 false)])
 (.block 0 (.seq (.join [⟨33, [.b], false⟩] 60129542144 none (.seq (.rg [o1 34 (.data (.bin .eql) [.t 32, .c (.int .i64 (1))]),
   o1 33 (.copy 34)])
 (.cond (.t 33)
  .skip
  (.rg [o1 35 (.data (.bin .eql) [.t 32, .c (.int .i64 (2))]),
    o1 33 (.copy 35)]))))
 (.cond (.t 33)
  (.seq (.rg [o1 36 (.idx .nil),
    o1 37 (.load 3 [] 2 (.t 36) 1 false),
    o1 38 (.len 37),
    o1 39 (.data (.bin .eql) [.t 38, .c (.int .i64 (1))]),
    o1 4 (.copy 39)])
  .ret)
  (.seq (.rg [o1 41 (.data (.bin .eql) [.t 32, .c (.int .i64 (3))]),
    o1 40 (.copy 41)])
  (.cond (.t 40)
   (.seq (.join [⟨4, [.b], false⟩] 9002801208229904 none (.rg [o1 42 (.idx .nil),
     o1 43 (.load 3 [] 2 (.t 42) 1 false),
     o1 44 (.len 43),
     o1 45 (.data (.bin .eql) [.t 44, .c (.int .i64 (0))]),
     o1 46 (.copy 45),
     o2 47 (.idx .nil) 4 true,
     o2 48 (.load 3 [] 3 (.t 47) 1 false) 4 true,
     o2 49 (.copy 0) 4 true,
     o2 50 (.data (.bin .sub) [.t 49, .c (.int .i64 (1))]) 4 true,
     ⟨false, [], [], .call 1 101 [.t 48, .c [.i .i64] [.int .i64 (0)], .t 50] .no, [51], (some 51), some (4, true)⟩,
     ⟨false, [], [], .pick 46 (.t 51) (.c (.bool false)), [52], (some 52), none⟩,
     o1 4 (.copy 52)]))
   .ret)
   (.seq (.rg [o1 54 (.data (.bin .eql) [.t 32, .c (.int .i64 (4))]),
     o1 53 (.copy 54)])
   (.cond (.t 53)
    (.seq (.rg [o1 55 (.idx .nil),
      o1 56 (.load 3 [] 2 (.t 55) 1 false),
      o1 57 (.len 56),
      o1 58 (.data (.bin .gtr) [.t 57, .c (.int .i64 (0))]),
      o1 4 (.copy 58)])
    .ret)
    .skip)))))))))
 (.seq (.rg [o1 4 (.lit [.b] [.bool false])])
 .ret))))
def s_iOrderOk : Sig := ⟨[.rd false [.d], .rd true [.d, .d, .sl (.own none) [.d, .d], .d]], (.one false [.d])⟩
noncomputable def E_iOrderOk : TEnv := envOf [(101, p_iin), (232, p_iedgesOk)]
noncomputable def f_iOrderOk (n : Nat) : Int × (Int × Int × List (Int × Int) × Int) → Option ((Bool) × Unit) := runFn n E_iOrderOk c_iOrderOk [[.i .i64], [.i .i64, .i .i64, .sl [.i .i64, .i .i64], .i .i64]] [.b] [] [4] .no
noncomputable def g_iOrderOk := f_iOrderOk BIG
noncomputable def p_iOrderOk : TSp := ⟨s_iOrderOk, [[.i .i64], [.i .i64, .i .i64, .sl [.i .i64, .i .i64], .i .i64]], [.b], [], Ou.j .no, g_iOrderOk⟩
theorem k_iOrderOk : chkW PG E_iOrderOk 241 s_iOrderOk (c_iOrderOk.ht 59) .no = some (c_iOrderOk.wc E_iOrderOk, [4]) := by kernel_rfl
theorem ok_iOrderOk : p_iOrderOk.Ok PG 241 := mkOk (env_cons ok_iin (env_cons ok_iedgesOk (env_nil PG))) k_iOrderOk (by kernel_rfl)
theorem e_iOrderOk (n : Nat) (a0 : Int) (a1 : Int × Int × List (Int × Int) × Int) : f_iOrderOk n (a0, a1) =
  Option.bind (Option.bind (g_iin (a0, (1 : Int), (12 : Int))) fun r0 =>
   bif !r0.1 then
    some true
   else Option.bind (g_iin (a1.1, (1 : Int), (100000 : Int))) fun r1 =>
   bif !r1.1 then
    some true
   else Option.bind (g_iedgesOk (a0, a1.2.2.1)) fun r2 =>
   bif !r2.1 then
    some true
   else bif !decide (a1.2.2.2 = (0 : Int)) then
    some (!decide (a1.2.1 = (3 : Int)))
   else some false : Option (Bool)) fun x3 =>
  bif x3 then
   some (false, ())
  else Option.bind (Option.bind (bif decide (a1.2.1 = (1 : Int)) then
     some true
    else some (decide (a1.2.1 = (2 : Int))) : Option (Bool)) fun x4 =>
   bif x4 then
    some (Sum.inr (decide ((a1.2.2.1.length : Int) = (1 : Int))))
   else bif decide (a1.2.1 = (3 : Int)) then
    Option.bind (bif decide ((a1.2.2.1.length : Int) = (0 : Int)) then
      Option.bind (g_iin (a1.2.2.2, (0 : Int), IntKind.wrap .i64 (a0 - (1 : Int)))) fun r5 =>
      some r5.1
     else some false : Option (Bool)) fun x6 =>
    some (Sum.inr x6)
   else bif decide (a1.2.1 = (4 : Int)) then
    some (Sum.inr (decide ((0 : Int) < (a1.2.2.1.length : Int))))
   else some (Sum.inl ()) : Option ((Unit) ⊕ (Bool))) fun y => match y with
  | .inl x7 =>
   some (false, ())
  | .inr x7 =>
   some (x7, ()) := by kernel_rfl
/- impl.taskOk -/
def c_itaskOk : TC :=
 (.seq (.rg [o1 1 (.a (.t 0)),
   o1 2 (.lit [.b] [.bool false])])
 (.seq (.rg [o1 5 (.idx .nil),
   o1 6 (.load 1 [] 5 (.t 5) 9 false),
   ⟨false, [], [], .det 2 (.a (.c [.i .i64, .i .i64, .i .i64, .i .i64, .i .i64, .i .i64, .i .i64, .sl [.i .i64, .i .i64], .i .i64] [.int .i64 (0), .int .i64 (0), .int .i64 (0), .int .i64 (0), .int .i64 (0), .int .i64 (0), .int .i64 (0), .slice none 0 0, .int .i64 (0)])), [3, 1000000001], (some 3), none⟩,
   o4 1 [3] (.store 3 [] 0 .nil (.t 6))])
 (.seq (.seq (.rg [o1 7 (.load 3 [] 0 .nil 9 false),
   o3 8 240 [.t 7]])
 (.cond (.t 8)
  (.seq (.rg [o1 2 (.lit [.b] [.bool true])])
  .ret)
  .skip))
 (.seq (.rg [o1 9 (.idx .nil),
   o1 10 (.load 3 [] 0 (.t 9) 4 false),
   ⟨false, [], [], .det 2 (.a (.c [.i .i64, .i .i64, .i .i64, .i .i64] [.int .i64 (0), .int .i64 (0), .int .i64 (0), .int .i64 (0)])), [4, 1000000001], (some 4), none⟩,
   o4 1 [4] (.store 4 [] 0 .nil (.t 10))])
 (.seq (.seq (.join [⟨24, [.b], false⟩] 33552384 none (.rg [o1 11 (.idx .nil),
   o1 12 (.load 4 [] 0 (.t 11) 1 false),
   o3 13 101 [.t 12, .c [.i .i64] [.int .i64 (1)], .c [.i .i64] [.int .i64 (100000)]],
   o1 14 (.data .not [.t 13]),
   o1 15 (.copy 14),
   o2 16 (.idx .nil) 4 false,
   o2 17 (.load 4 [] 1 (.t 16) 1 false) 4 false,
   o2 18 (.data (.bin .eql) [.t 17, .c (.int .i64 (3))]) 4 false,
   ⟨false, [], [], .pick 15 (.c (.bool true)) (.t 18), [19], (some 19), none⟩,
   o1 20 (.copy 19),
   o2 21 (.load 1 [] 0 .nil 15 false) 9 false,
   o2 22 (.load 4 [] 0 .nil 4 false) 9 false,
   ⟨false, [], [], .call 1 237 [.t 21, .t 22] .no, [23], (some 23), some (9, false)⟩,
   ⟨false, [], [], .pick 20 (.c (.bool true)) (.t 23), [24], (some 24), none⟩]))
 (.cond (.t 24)
  (.seq (.rg [o1 2 (.lit [.b] [.bool false])])
  .ret)
  .skip))
 (.seq (.join [⟨2, [.b], false⟩] 1152921504573292548 none (.rg [o1 25 (.idx .nil),
   o1 26 (.load 3 [] 4 (.t 25) 1 false),
   o1 27 (.idx .nil),
   o1 28 (.load 1 [] 3 (.t 27) 1 false),
   o1 29 (.len 28),
   o3 30 101 [.t 26, .c [.i .i64] [.int .i64 (1)], .t 29],
   o1 31 (.copy 30),
   o2 32 (.idx .nil) 6 true,
   o2 33 (.load 1 [] 0 (.t 32) 1 false) 6 true,
   o2 34 (.idx .nil) 6 true,
   o2 35 (.load 3 [] 5 (.t 34) 4 false) 6 true,
   ⟨false, [], [], .call 1 241 [.t 33, .t 35] .no, [36], (some 36), some (6, true)⟩,
   ⟨false, [], [], .pick 31 (.t 36) (.c (.bool false)), [37], (some 37), none⟩,
   o1 38 (.copy 37),
   o2 39 (.idx .nil) 13 true,
   o2 40 (.idx (.t 39)) 13 true,
   o2 41 (.load 3 [] 5 (.t 40) 1 false) 13 true,
   o2 42 (.idx .nil) 13 true,
   o2 43 (.load 1 [] 4 (.t 42) 1 false) 13 true,
   o2 44 (.idx .nil) 13 true,
   o2 45 (.load 3 [] 4 (.t 44) 1 false) 13 true,
   o2 46 (.data (.bin .sub) [.t 45, .c (.int .i64 (1))]) 13 true,
   o2 47 (.index 43 (.t 46)) 13 true,
   o2 48 (.load 43 [(0, 1)] 0 (.t 47) 1 false) 13 true,
   o2 49 (.data (.bin .add) [.t 48, .c (.int .i64 (1))]) 13 true,
   o2 50 (.data (.bin .eql) [.t 41, .t 49]) 13 true,
   ⟨false, [], [], .pick 38 (.t 50) (.c (.bool false)), [51], (some 51), none⟩,
   o1 52 (.copy 51),
   o2 53 (.idx .nil) 27 true,
   o2 54 (.load 1 [] 14 (.t 53) 1 false) 27 true,
   o2 55 (.idx .nil) 27 true,
   o2 56 (.load 4 [] 0 (.t 55) 1 false) 27 true,
   ⟨false, [], [], .call 1 121 [.t 54, .t 56] .no, [57], (some 57), some (27, true)⟩,
   o2 58 (.data (.bin .lss) [.t 57, .c (.int .i64 (0))]) 27 true,
   ⟨false, [], [], .pick 52 (.t 58) (.c (.bool false)), [59], (some 59), none⟩,
   o1 2 (.copy 59)]))
 .ret))))))
def s_itaskOk : Sig := ⟨[.rd true [.d, .sl (.own none) [.d], .sl (.own none) [.d, .d], .sl (.own none) [.sl (.own none) [.d]], .sl (.own none) [.d], .d, .d, .d, .d, .d, .d, .d, .sl (.own none) [.d, .d], .d, .sl (.own none) [.d, .d, .d, .d, .d, .d]]], (.one false [.d])⟩
noncomputable def E_itaskOk : TEnv := envOf [(240, p_inoTask), (101, p_iin), (237, p_ibadAsk), (241, p_iOrderOk), (121, p_isaidAt)]
noncomputable def f_itaskOk (n : Nat) : (Int × List (Int) × List (Int × Int) × List (List (Int)) × List (Int) × Int × Int × Int × Int × Int × Int × Int × List (Int × Int) × Int × List (Int × Int × Int × Int × Int × Int)) → Option ((Bool) × Unit) := runFn n E_itaskOk c_itaskOk [[.i .i64, .sl [.i .i64], .sl [.i .i64, .i .i64], .sl [.sl [.i .i64]], .sl [.i .i64], .i .i64, .i .i64, .i .i64, .i .i64, .i .i64, .i .i64, .i .i64, .sl [.i .i64, .i .i64], .i .i64, .sl [.i .i64, .i .i64, .i .i64, .i .i64, .i .i64, .i .i64]]] [.b] [] [2] .no
noncomputable def g_itaskOk := f_itaskOk BIG
noncomputable def p_itaskOk : TSp := ⟨s_itaskOk, [[.i .i64, .sl [.i .i64], .sl [.i .i64, .i .i64], .sl [.sl [.i .i64]], .sl [.i .i64], .i .i64, .i .i64, .i .i64, .i .i64, .i .i64, .i .i64, .i .i64, .sl [.i .i64, .i .i64], .i .i64, .sl [.i .i64, .i .i64, .i .i64, .i .i64, .i .i64, .i .i64]]], [.b], [], Ou.j .no, g_itaskOk⟩
theorem k_itaskOk : chkW PG E_itaskOk 126 s_itaskOk (c_itaskOk.ht 60) .no = some (c_itaskOk.wc E_itaskOk, [2]) := by kernel_rfl
theorem ok_itaskOk : p_itaskOk.Ok PG 126 := mkOk (env_cons ok_inoTask (env_cons ok_iin (env_cons ok_ibadAsk (env_cons ok_iOrderOk (env_cons ok_isaidAt (env_nil PG)))))) k_itaskOk (by kernel_rfl)
theorem e_itaskOk (n : Nat) (a0 : Int × List (Int) × List (Int × Int) × List ((List (Int))) × List (Int) × Int × Int × Int × Int × Int × Int × Int × List (Int × Int) × Int × List (Int × Int × Int × Int × Int × Int)) : f_itaskOk n a0 =
  Option.bind (g_inoTask (a0.2.2.2.2.2.1, a0.2.2.2.2.2.2.1, a0.2.2.2.2.2.2.2.1, a0.2.2.2.2.2.2.2.2.1, a0.2.2.2.2.2.2.2.2.2.1, a0.2.2.2.2.2.2.2.2.2.2.1, a0.2.2.2.2.2.2.2.2.2.2.2.1, a0.2.2.2.2.2.2.2.2.2.2.2.2.1, a0.2.2.2.2.2.2.2.2.2.2.2.2.2.1)) fun r0 =>
  bif r0.1 then
   some (true, ())
  else Option.bind (Option.bind (g_iin (a0.2.2.2.2.2.1, (1 : Int), (100000 : Int))) fun r1 =>
   bif !r1.1 then
    some true
   else bif decide (a0.2.2.2.2.2.2.1 = (3 : Int)) then
    some true
   else Option.bind (g_ibadAsk (a0, (a0.2.2.2.2.2.1, a0.2.2.2.2.2.2.1, a0.2.2.2.2.2.2.2.1, a0.2.2.2.2.2.2.2.2.1))) fun r2 =>
   some r2.1 : Option (Bool)) fun x3 =>
  bif x3 then
   some (false, ())
  else Option.bind (Option.bind (g_iin (a0.2.2.2.2.2.2.2.2.2.1, (1 : Int), (a0.2.2.2.1.length : Int))) fun r4 =>
   bif r4.1 then
    Option.bind (g_iOrderOk (a0.1, (a0.2.2.2.2.2.2.2.2.2.2.1, a0.2.2.2.2.2.2.2.2.2.2.2.1, a0.2.2.2.2.2.2.2.2.2.2.2.2.1, a0.2.2.2.2.2.2.2.2.2.2.2.2.2.1))) fun r5 =>
    bif r5.1 then
     bnd a0.2.2.2.2.1.length (IntKind.wrap .i64 (a0.2.2.2.2.2.2.2.2.2.1 - (1 : Int))) fun n6 =>
     Option.bind a0.2.2.2.2.1[n6]? fun y7 =>
     bif decide (a0.2.2.2.2.2.2.2.2.2.2.1 = (IntKind.wrap .i64 (y7 + (1 : Int)))) then
      Option.bind (g_isaidAt (a0.2.2.2.2.2.2.2.2.2.2.2.2.2.2, a0.2.2.2.2.2.1)) fun r8 =>
      some (decide (r8.1 < (0 : Int)))
     else some false
    else some false
   else some false : Option (Bool)) fun x9 =>
  some (x9, ()) := by kernel_rfl
/- impl.HeadOk -/
def c_iHeadOk : TC :=
 (.seq (.rg [o1 1 (.a (.t 0)),
   o1 2 (.lit [.b] [.bool false])])
 (.seq (.seq (.join [⟨24, [.b], false⟩] 33554400 none (.rg [o1 5 (.idx .nil),
   o1 6 (.load 1 [] 0 (.t 5) 1 false),
   o3 7 101 [.t 6, .c [.i .i64] [.int .i64 (1)], .c [.i .i64] [.int .i64 (12)]],
   o1 8 (.data .not [.t 7]),
   o1 9 (.copy 8),
   o2 10 (.idx .nil) 4 false,
   o2 11 (.load 1 [] 3 (.t 10) 1 false) 4 false,
   o2 12 (.len 11) 4 false,
   ⟨false, [], [], .call 1 101 [.t 12, .c [.i .i64] [.int .i64 (1)], .c [.i .i64] [.int .i64 (3)]] .no, [13], (some 13), some (4, false)⟩,
   o2 14 (.data .not [.t 13]) 4 false,
   ⟨false, [], [], .pick 9 (.c (.bool true)) (.t 14), [15], (some 15), none⟩,
   o1 16 (.copy 15),
   o2 17 (.idx .nil) 11 false,
   o2 18 (.load 1 [] 4 (.t 17) 1 false) 11 false,
   o2 19 (.len 18) 11 false,
   o2 20 (.idx .nil) 11 false,
   o2 21 (.load 1 [] 3 (.t 20) 1 false) 11 false,
   o2 22 (.len 21) 11 false,
   o2 23 (.data (.bin .neq) [.t 19, .t 22]) 11 false,
   ⟨false, [], [], .pick 16 (.c (.bool true)) (.t 23), [24], (some 24), none⟩]))
 (.cond (.t 24)
  (.seq (.rg [o1 2 (.lit [.b] [.bool false])])
  .ret)
  .skip))
 (.seq (.join [] 281474943156252 (some [⟨2, [.b], false⟩]) (.seq (.rg [o1 25 (.idx .nil),
   o1 26 (.load 1 [] 3 (.t 25) 1 false),
   o1 27 (.len 26),
   o1 28 (.lit [.i .i64] [.int .i64 (0)])])
 (.block 0 (.loop [⟨28, [.i .i64], false⟩] 281474708275228
  (.seq (.rg [o1 29 (.data (.bin .lss) [.t 28, .t 27])])
  (.seq (.cond (.t 29)
   .skip
   (.exit 0))
  (.seq (.join [] 140736414613532 (some [⟨2, [.b], false⟩]) (.block 1 (.seq (.rg [o1 30 (.copy 28),
    o1 31 (.index 26 (.t 28)),
    o1 32 (.load 26 [(0, 1)] 0 (.t 31) 1 false),
    o1 3 (.copy 30),
    o1 4 (.copy 32)])
  (.seq (.join [⟨46, [.b], false⟩] 140728898420736 none (.rg [o1 33 (.idx .nil),
    o1 34 (.load 1 [] 0 (.t 33) 1 false),
    o1 35 (.copy 4),
    o3 36 123 [.t 34, .t 35],
    o1 37 (.data .not [.t 36]),
    o1 38 (.copy 37),
    o2 39 (.idx .nil) 5 false,
    o2 40 (.load 1 [] 4 (.t 39) 1 false) 5 false,
    o2 41 (.copy 3) 5 false,
    o2 42 (.index 40 (.t 41)) 5 false,
    o2 43 (.load 40 [(0, 1)] 0 (.t 42) 1 false) 5 false,
    ⟨false, [], [], .call 1 101 [.t 43, .c [.i .i64] [.int .i64 (0)], .c [.i .i64] [.int .i64 (99991)]] .no, [44], (some 44), some (5, false)⟩,
    o2 45 (.data .not [.t 44]) 5 false,
    ⟨false, [], [], .pick 38 (.c (.bool true)) (.t 45), [46], (some 46), none⟩]))
  (.cond (.t 46)
   (.seq (.rg [o1 2 (.lit [.b] [.bool false])])
   .ret)
   .skip)))))
  (.rg [o1 47 (.data (.bin .add) [.t 28, .c (.int .i64 (1))]),
    o1 28 (.copy 47)]))))))))
 (.seq (.join [⟨2, [.b], false⟩] 576179277326712836 none (.rg [o1 48 (.load 1 [] 0 .nil 15 false),
   o3 49 124 [.t 48],
   o1 50 (.copy 49),
   o2 51 (.idx .nil) 2 true,
   o2 52 (.load 1 [] 14 (.t 51) 1 false) 2 true,
   ⟨false, [], [], .call 1 125 [.t 52] .no, [53], (some 53), some (2, true)⟩,
   ⟨false, [], [], .pick 50 (.t 53) (.c (.bool false)), [54], (some 54), none⟩,
   o1 55 (.copy 54),
   o2 56 (.load 1 [] 0 .nil 15 false) 7 true,
   ⟨false, [], [], .call 1 126 [.t 56] .no, [57], (some 57), some (7, true)⟩,
   ⟨false, [], [], .pick 55 (.t 57) (.c (.bool false)), [58], (some 58), none⟩,
   o1 2 (.copy 58)]))
 .ret))))
def s_iHeadOk : Sig := ⟨[.rd true [.d, .sl (.own none) [.d], .sl (.own none) [.d, .d], .sl (.own none) [.sl (.own none) [.d]], .sl (.own none) [.d], .d, .d, .d, .d, .d, .d, .d, .sl (.own none) [.d, .d], .d, .sl (.own none) [.d, .d, .d, .d, .d, .d]]], (.one false [.d])⟩
noncomputable def E_iHeadOk : TEnv := envOf [(101, p_iin), (123, p_ilabelsOk), (124, p_iownOk), (125, p_isaidOk), (126, p_itaskOk)]
noncomputable def f_iHeadOk (n : Nat) : (Int × List (Int) × List (Int × Int) × List (List (Int)) × List (Int) × Int × Int × Int × Int × Int × Int × Int × List (Int × Int) × Int × List (Int × Int × Int × Int × Int × Int)) → Option ((Bool) × Unit) := runFn n E_iHeadOk c_iHeadOk [[.i .i64, .sl [.i .i64], .sl [.i .i64, .i .i64], .sl [.sl [.i .i64]], .sl [.i .i64], .i .i64, .i .i64, .i .i64, .i .i64, .i .i64, .i .i64, .i .i64, .sl [.i .i64, .i .i64], .i .i64, .sl [.i .i64, .i .i64, .i .i64, .i .i64, .i .i64, .i .i64]]] [.b] [] [2] .no
noncomputable def g_iHeadOk := f_iHeadOk BIG
noncomputable def p_iHeadOk : TSp := ⟨s_iHeadOk, [[.i .i64, .sl [.i .i64], .sl [.i .i64, .i .i64], .sl [.sl [.i .i64]], .sl [.i .i64], .i .i64, .i .i64, .i .i64, .i .i64, .i .i64, .i .i64, .i .i64, .sl [.i .i64, .i .i64], .i .i64, .sl [.i .i64, .i .i64, .i .i64, .i .i64, .i .i64, .i .i64]]], [.b], [], Ou.j .no, g_iHeadOk⟩
theorem k_iHeadOk : chkW PG E_iHeadOk 47 s_iHeadOk (c_iHeadOk.ht 59) .no = some (c_iHeadOk.wc E_iHeadOk, [2]) := by kernel_rfl
theorem ok_iHeadOk : p_iHeadOk.Ok PG 47 := mkOk (env_cons ok_iin (env_cons ok_ilabelsOk (env_cons ok_iownOk (env_cons ok_isaidOk (env_cons ok_itaskOk (env_nil PG)))))) k_iHeadOk (by kernel_rfl)
theorem e_iHeadOk (n : Nat) (a0 : Int × List (Int) × List (Int × Int) × List ((List (Int))) × List (Int) × Int × Int × Int × Int × Int × Int × Int × List (Int × Int) × Int × List (Int × Int × Int × Int × Int × Int)) : f_iHeadOk n a0 =
  Option.bind (Option.bind (g_iin (a0.1, (1 : Int), (12 : Int))) fun r0 =>
   bif !r0.1 then
    some true
   else Option.bind (g_iin ((a0.2.2.2.1.length : Int), (1 : Int), (3 : Int))) fun r1 =>
   bif !r1.1 then
    some true
   else some (!decide ((a0.2.2.2.2.1.length : Int) = (a0.2.2.2.1.length : Int))) : Option (Bool)) fun x2 =>
  bif x2 then
   some (false, ())
  else Option.bind (loopT n (X := Int) (B := (Unit) ⊕ (Bool)) (fun self4 x3 =>
    bif decide (x3 < (a0.2.2.2.1.length : Int)) then
     Option.bind (bnd a0.2.2.2.1.length x3 fun n5 =>
      Option.bind a0.2.2.2.1[n5]? fun y6 =>
      Option.bind (Option.bind (g_ilabelsOk (a0.1, y6)) fun r7 =>
       bif !r7.1 then
        some true
       else bnd a0.2.2.2.2.1.length x3 fun n8 =>
       Option.bind a0.2.2.2.2.1[n8]? fun y9 =>
       Option.bind (g_iin (y9, (0 : Int), (99991 : Int))) fun r10 =>
       some !r10.1 : Option (Bool)) fun x11 =>
      bif x11 then
       some (Sum.inr false)
      else some (Sum.inl ()) : Option ((Unit) ⊕ (Bool))) fun y => match y with
     | .inl x12 =>
      self4 (IntKind.wrap .i64 (x3 + (1 : Int)))
     | .inr x12 =>
      some (Sum.inr x12)
    else some (Sum.inl ())) (0 : Int) : Option ((Unit) ⊕ (Bool))) fun y => match y with
  | .inl x13 =>
   Option.bind (Option.bind (g_iownOk a0) fun r14 =>
    bif r14.1 then
     Option.bind (g_isaidOk a0.2.2.2.2.2.2.2.2.2.2.2.2.2.2) fun r15 =>
     bif r15.1 then
      Option.bind (g_itaskOk a0) fun r16 =>
      some r16.1
     else some false
    else some false : Option (Bool)) fun x17 =>
   some (x17, ())
  | .inr x13 =>
   some (x13, ()) := by kernel_rfl
/- impl.Busy -/
def c_iBusy : TC :=
 (.seq (.rg [o1 1 (.a (.t 0)),
   o1 2 (.lit [.b] [.bool false])])
 (.seq (.rg [o1 3 (.idx .nil),
   o1 4 (.idx (.t 3)),
   o1 5 (.load 1 [] 9 (.t 4) 1 false),
   o1 6 (.data (.bin .neq) [.t 5, .c (.int .i64 (0))]),
   o1 2 (.copy 6)])
 .ret))
def s_iBusy : Sig := ⟨[.rd true [.d, .sl (.own none) [.d], .sl (.own none) [.d, .d], .sl (.own none) [.sl (.own none) [.d]], .sl (.own none) [.d], .d, .d, .d, .d, .d, .d, .d, .sl (.own none) [.d, .d], .d, .sl (.own none) [.d, .d, .d, .d, .d, .d]]], (.one false [.d])⟩
noncomputable def E_iBusy : TEnv := envOf []
noncomputable def f_iBusy (n : Nat) : (Int × List (Int) × List (Int × Int) × List (List (Int)) × List (Int) × Int × Int × Int × Int × Int × Int × Int × List (Int × Int) × Int × List (Int × Int × Int × Int × Int × Int)) → Option ((Bool) × Unit) := runFn n E_iBusy c_iBusy [[.i .i64, .sl [.i .i64], .sl [.i .i64, .i .i64], .sl [.sl [.i .i64]], .sl [.i .i64], .i .i64, .i .i64, .i .i64, .i .i64, .i .i64, .i .i64, .i .i64, .sl [.i .i64, .i .i64], .i .i64, .sl [.i .i64, .i .i64, .i .i64, .i .i64, .i .i64, .i .i64]]] [.b] [] [2] .no
noncomputable def g_iBusy := f_iBusy BIG
noncomputable def p_iBusy : TSp := ⟨s_iBusy, [[.i .i64, .sl [.i .i64], .sl [.i .i64, .i .i64], .sl [.sl [.i .i64]], .sl [.i .i64], .i .i64, .i .i64, .i .i64, .i .i64, .i .i64, .i .i64, .i .i64, .sl [.i .i64, .i .i64], .i .i64, .sl [.i .i64, .i .i64, .i .i64, .i .i64, .i .i64, .i .i64]]], [.b], [], Ou.j .no, g_iBusy⟩
theorem k_iBusy : chkW PG E_iBusy 48 s_iBusy (c_iBusy.ht 7) .no = some (c_iBusy.wc E_iBusy, [2]) := by kernel_rfl
theorem ok_iBusy : p_iBusy.Ok PG 48 := mkOk (env_nil PG) k_iBusy (by kernel_rfl)
theorem e_iBusy (n : Nat) (a0 : Int × List (Int) × List (Int × Int) × List ((List (Int))) × List (Int) × Int × Int × Int × Int × Int × Int × Int × List (Int × Int) × Int × List (Int × Int × Int × Int × Int × Int)) : f_iBusy n a0 =
  some (!decide (a0.2.2.2.2.2.2.2.2.2.1 = (0 : Int)), ()) := by kernel_rfl
/- impl.Head).say -/
def c_iHead_say : TC :=
 (.seq (.rg [o1 4 (.a (.t 1)),
   o1 6 (.lit [.i .i64] [.int .i64 (0)])])
 (.seq (.rg [o1 7 (.p0),
   o1 8 (.p0),
   o1 9 (.same 8),
   o1 10 (.idx (.t 9)),
   o1 11 (.load 0 [] 14 (.t 10) 1 true),
   o1 12 (.idx .nil),
   o1 13 (.load 4 [] 0 (.t 12) 1 false),
   o1 14 (.load 4 [] 0 .nil 4 false),
   o1 15 (.copy 2),
   o1 16 (.build [.i .i64, .i .i64, .i .i64, .i .i64, .i .i64, .i .i64] [(0, .t 13), (1, .t 14), (5, .t 15)]),
   o1 17 (.sli [.i .i64, .i .i64, .i .i64, .i .i64, .i .i64, .i .i64] [.t 16]),
   ⟨false, [11], [], .det 2 (.app (some 11) 17), [18, 11, 11, 0], (some 18), none⟩,
   o1 19 (.same 7),
   o1 20 (.idx (.t 19)),
   o4 2 [0, 18, 11] (.store 0 [] 14 (.t 20) (.t 18))])
 (.seq (.rg [o1 6 (.lit [.i .i64] [.int .i64 (1)])])
 .ret)))
def s_iHead_say : Sig := ⟨[.mp [.d, .sl (.own none) [.d], .sl (.own none) [.d, .d], .sl (.own none) [.sl (.own none) [.d]], .sl (.own none) [.d], .d, .d, .d, .d, .d, .d, .d, .sl (.own none) [.d, .d], .d, .sl (.own none) [.d, .d, .d, .d, .d, .d]], .rd true [.d, .d, .d, .d], .rd false [.d]], (.one false [.d])⟩
noncomputable def E_iHead_say : TEnv := envOf []
noncomputable def f_iHead_say (n : Nat) : (Int × List (Int) × List (Int × Int) × List (List (Int)) × List (Int) × Int × Int × Int × Int × Int × Int × Int × List (Int × Int) × Int × List (Int × Int × Int × Int × Int × Int)) × (Int × Int × Int × Int) × Int → Option ((Int) × Int × List (Int) × List (Int × Int) × List (List (Int)) × List (Int) × Int × Int × Int × Int × Int × Int × Int × List (Int × Int) × Int × List (Int × Int × Int × Int × Int × Int)) := runFn n E_iHead_say c_iHead_say [[.i .i64, .sl [.i .i64], .sl [.i .i64, .i .i64], .sl [.sl [.i .i64]], .sl [.i .i64], .i .i64, .i .i64, .i .i64, .i .i64, .i .i64, .i .i64, .i .i64, .sl [.i .i64, .i .i64], .i .i64, .sl [.i .i64, .i .i64, .i .i64, .i .i64, .i .i64, .i .i64]], [.i .i64, .i .i64, .i .i64, .i .i64], [.i .i64]] [.i .i64] [.i .i64, .sl [.i .i64], .sl [.i .i64, .i .i64], .sl [.sl [.i .i64]], .sl [.i .i64], .i .i64, .i .i64, .i .i64, .i .i64, .i .i64, .i .i64, .i .i64, .sl [.i .i64, .i .i64], .i .i64, .sl [.i .i64, .i .i64, .i .i64, .i .i64, .i .i64, .i .i64]] [6] (.mp 0)
noncomputable def g_iHead_say := f_iHead_say BIG
noncomputable def p_iHead_say : TSp := ⟨s_iHead_say, [[.i .i64, .sl [.i .i64], .sl [.i .i64, .i .i64], .sl [.sl [.i .i64]], .sl [.i .i64], .i .i64, .i .i64, .i .i64, .i .i64, .i .i64, .i .i64, .i .i64, .sl [.i .i64, .i .i64], .i .i64, .sl [.i .i64, .i .i64, .i .i64, .i .i64, .i .i64, .i .i64]], [.i .i64, .i .i64, .i .i64, .i .i64], [.i .i64]], [.i .i64], [.i .i64, .sl [.i .i64], .sl [.i .i64, .i .i64], .sl [.sl [.i .i64]], .sl [.i .i64], .i .i64, .i .i64, .i .i64, .i .i64, .i .i64, .i .i64, .i .i64, .sl [.i .i64, .i .i64], .i .i64, .sl [.i .i64, .i .i64, .i .i64, .i .i64, .i .i64, .i .i64]], Ou.j (.mp 0), g_iHead_say⟩
theorem k_iHead_say : chkW PG E_iHead_say 177 s_iHead_say (c_iHead_say.ht 21) (.mp 0) = some (c_iHead_say.wc E_iHead_say, [6]) := by kernel_rfl
theorem ok_iHead_say : p_iHead_say.Ok PG 177 := mkOk (env_nil PG) k_iHead_say (by kernel_rfl)
theorem e_iHead_say (n : Nat) (a0 : Int × List (Int) × List (Int × Int) × List ((List (Int))) × List (Int) × Int × Int × Int × Int × Int × Int × Int × List (Int × Int) × Int × List (Int × Int × Int × Int × Int × Int)) (a1 : Int × Int × Int × Int) (a2 : Int) : f_iHead_say n (a0, a1, a2) =
  bif decide (a0.2.2.2.2.2.2.2.2.2.2.2.2.2.2.length + ([(a1.1, a1.1, a1.2.1, a1.2.2.1, a1.2.2.2, a2)]).length ≤ 4294967296) then
   some ((1 : Int), (a0.1, a0.2.1, a0.2.2.1, a0.2.2.2.1, a0.2.2.2.2.1, a0.2.2.2.2.2.1, a0.2.2.2.2.2.2.1, a0.2.2.2.2.2.2.2.1, a0.2.2.2.2.2.2.2.2.1, a0.2.2.2.2.2.2.2.2.2.1, a0.2.2.2.2.2.2.2.2.2.2.1, a0.2.2.2.2.2.2.2.2.2.2.2.1, a0.2.2.2.2.2.2.2.2.2.2.2.2.1, a0.2.2.2.2.2.2.2.2.2.2.2.2.2.1, a0.2.2.2.2.2.2.2.2.2.2.2.2.2.2 ++ ([(a1.1, a1.1, a1.2.1, a1.2.2.1, a1.2.2.2, a2)])))
  else none := by kernel_rfl
/- impl.union -/
def c_iunion : TC :=
 (.seq (.rg [o1 6 (.lit [.b] [.bool false])])
 (.seq (.rg [⟨true, [], [], .det 1 (.copy 0), [10], (some 10), none⟩,
   o1 11 (.copy 1),
   o1 12 (.index 10 (.t 11)),
   o1 13 (.load 0 [(0, 1)] 0 (.t 12) 1 false),
   ⟨true, [], [], .det 1 (.copy 0), [14], (some 14), none⟩,
   o1 15 (.copy 2),
   o1 16 (.index 14 (.t 15)),
   o1 17 (.load 0 [(0, 1)] 0 (.t 16) 1 false),
   o1 7 (.copy 13),
   o1 8 (.copy 17)])
 (.seq (.seq (.rg [o1 18 (.copy 7),
   o1 19 (.copy 8),
   o1 20 (.data (.bin .eql) [.t 18, .t 19])])
 (.cond (.t 20)
  (.seq (.rg [o1 6 (.lit [.b] [.bool false])])
  .ret)
  .skip))
 (.seq (.join [⟨0, [.sl [.i .i64]], false⟩] 2199021158913 none (.seq (.rg [⟨true, [], [], .det 1 (.copy 0), [21], (some 21), none⟩,
   o1 22 (.len 21),
   o1 23 (.lit [.i .i64] [.int .i64 (0)])])
 (.block 0 (.loop [⟨0, [.sl [.i .i64]], false⟩, ⟨23, [.i .i64], false⟩] 2199016982017
  (.seq (.rg [o1 24 (.data (.bin .lss) [.t 23, .t 22])])
  (.seq (.cond (.t 24)
   .skip
   (.exit 0))
  (.seq (.join [⟨0, [.sl [.i .i64]], false⟩] 1099478073857 none (.block 1 (.seq (.rg [o1 25 (.copy 23),
    o1 9 (.copy 25)])
  (.seq (.rg [⟨true, [], [], .det 1 (.copy 0), [26], (some 26), none⟩,
    o1 27 (.copy 9),
    o1 28 (.index 26 (.t 27)),
    o1 29 (.load 0 [(0, 1)] 0 (.t 28) 1 false),
    o1 30 (.copy 7),
    o1 31 (.copy 8),
    o1 32 (.data .max [.t 30, .t 31]),
    o1 33 (.data (.bin .eql) [.t 29, .t 32])])
  (.cond (.t 33)
   (.rg [⟨true, [], [], .det 1 (.copy 0), [34], (some 34), none⟩,
     o1 35 (.copy 9),
     o1 36 (.copy 7),
     o1 37 (.copy 8),
     o1 38 (.data .min [.t 36, .t 37]),
     o1 39 (.index 34 (.t 35)),
     o4 1 [0, 26, 34] (.store 0 [(0, 1)] 0 (.t 39) (.t 38))])
   .skip)))))
  (.rg [o1 40 (.data (.bin .add) [.t 23, .c (.int .i64 (1))]),
    o1 23 (.copy 40)]))))))))
 (.seq (.rg [o1 6 (.lit [.b] [.bool true])])
 .ret)))))
def s_iunion : Sig := ⟨[.mt false [.sl (.own none) [.d]], .rd false [.d], .rd false [.d]], (.one false [.d])⟩
noncomputable def E_iunion : TEnv := envOf []
noncomputable def f_iunion (n : Nat) : List (Int) × Int × Int → Option ((Bool) × List (Int)) := runFn n E_iunion c_iunion [[.sl [.i .i64]], [.i .i64], [.i .i64]] [.b] [.sl [.i .i64]] [6] (.mt 0 0 0)
noncomputable def g_iunion := f_iunion BIG
noncomputable def p_iunion : TSp := ⟨s_iunion, [[.sl [.i .i64]], [.i .i64], [.i .i64]], [.b], [.sl [.i .i64]], Ou.j (.mt 0 0 0), g_iunion⟩
theorem k_iunion : chkW PG E_iunion 109 s_iunion (c_iunion.ht 41) (.mt 0 0 0) = some (c_iunion.wc E_iunion, [6]) := by kernel_rfl
theorem ok_iunion : p_iunion.Ok PG 109 := mkOk (env_nil PG) k_iunion (by kernel_rfl)
theorem e_iunion (n : Nat) (a0 : List (Int)) (a1 : Int) (a2 : Int) : f_iunion n (a0, a1, a2) =
  bnd a0.length a1 fun n0 =>
  Option.bind a0[n0]? fun y1 =>
  bnd a0.length a2 fun n2 =>
  Option.bind a0[n2]? fun y3 =>
  bif decide (y1 = y3) then
   some (false, a0)
  else Option.bind (loopT n (X := (List (Int)) × Int) (B := (List (Int))) (fun self5 x4 =>
    bif decide (x4.2 < (a0.length : Int)) then
     Option.bind (bnd x4.1.length x4.2 fun n6 =>
      Option.bind x4.1[n6]? fun y7 =>
      bif decide (y7 = (if y3 > y1 then y3 else y1)) then
       bnd x4.1.length x4.2 fun n8 =>
       Option.bind x4.1[n8]? fun y9 =>
       some (x4.1.set n8 (if y3 < y1 then y3 else y1))
      else some x4.1 : Option ((List (Int)))) fun x10 =>
     self5 (x10, IntKind.wrap .i64 (x4.2 + (1 : Int)))
    else some x4.1) (a0, (0 : Int)) : Option ((List (Int)))) fun x11 =>
  some (true, x11) := by kernel_rfl
/- impl.WholeLabels -/
def c_iWholeLabels : TC :=
 (.seq (.rg [o1 6 (.lit [.sl [.i .i64]] [.slice none 0 0]),
   o1 7 (.lit [.b] [.bool false])])
 (.seq (.seq (.join [⟨22, [.b], false⟩] 8355840 none (.rg [o1 15 (.copy 0),
   o3 16 101 [.t 15, .c [.i .i64] [.int .i64 (1)], .c [.i .i64] [.int .i64 (12)]],
   o1 17 (.data .not [.t 16]),
   o1 18 (.copy 17),
   o2 19 (.copy 1) 3 false,
   o2 20 (.len 19) 3 false,
   o2 21 (.data (.bin .gtr) [.t 20, .c (.int .i64 (3))]) 3 false,
   ⟨false, [], [], .pick 18 (.c (.bool true)) (.t 21), [22], (some 22), none⟩]))
 (.cond (.t 22)
  (.seq (.rg [o1 6 (.lit [.sl [.i .i64]] [.slice none 0 0]),
    o1 7 (.lit [.b] [.bool false])])
  .ret)
  .skip))
 (.seq (.rg [o1 23 (.copy 0),
   o3 24 108 [.t 23],
   ⟨false, [], [], .det 2 (.copy 24), [8, 24], (some 8), none⟩])
 (.seq (.join [⟨8, [.sl [.i .i64]], false⟩] 4503599593823680 (some [⟨6, [.sl [.i .i64]], false⟩, ⟨7, [.b], false⟩]) (.seq (.rg [o1 25 (.copy 1),
   o1 26 (.len 25),
   o1 27 (.lit [.i .i64] [.int .i64 (0)])])
 (.block 0 (.loop [⟨8, [.sl [.i .i64]], false⟩, ⟨27, [.i .i64], false⟩] 4503599493160384
  (.seq (.rg [o1 28 (.data (.bin .lss) [.t 27, .t 26])])
  (.seq (.cond (.t 28)
   .skip
   (.exit 0))
  (.seq (.join [⟨8, [.sl [.i .i64]], false⟩] 2251799276821952 (some [⟨6, [.sl [.i .i64]], false⟩, ⟨7, [.b], false⟩]) (.block 1 (.seq (.rg [o1 29 (.index 25 (.t 27)),
    o1 30 (.load 25 [(0, 1)] 0 (.t 29) 1 false),
    o1 10 (.copy 30)])
  (.seq (.seq (.rg [o1 31 (.copy 10),
    o1 32 (.len 31),
    o1 33 (.copy 0),
    o1 34 (.data (.bin .neq) [.t 32, .t 33])])
  (.cond (.t 34)
   (.seq (.rg [o1 6 (.lit [.sl [.i .i64]] [.slice none 0 0]),
     o1 7 (.lit [.b] [.bool false])])
   .ret)
   .skip))
  (.seq (.rg [o1 35 (.copy 10),
    o1 36 (.len 35),
    o1 37 (.lit [.i .i64] [.int .i64 (0)])])
  (.block 2 (.loop [⟨8, [.sl [.i .i64]], false⟩, ⟨37, [.i .i64], false⟩] 2251662374738368
   (.seq (.rg [o1 38 (.data (.bin .lss) [.t 37, .t 36])])
   (.seq (.cond (.t 38)
    .skip
    (.exit 2))
   (.seq (.block 3 (.seq (.rg [o1 39 (.copy 37),
     o1 40 (.index 35 (.t 37)),
     o1 41 (.load 35 [(0, 1)] 0 (.t 40) 1 false),
     o1 11 (.copy 39),
     o1 12 (.copy 41)])
   (.seq (.seq (.rg [o1 42 (.copy 12),
     o1 43 (.copy 11),
     o3 44 101 [.t 42, .c [.i .i64] [.int .i64 (0)], .t 43],
     o1 45 (.data .not [.t 44])])
   (.cond (.t 45)
    (.seq (.rg [o1 6 (.lit [.sl [.i .i64]] [.slice none 0 0]),
      o1 7 (.lit [.b] [.bool false])])
    .ret)
    .skip))
   (.rg [⟨true, [], [], .det 1 (.copy 8), [46], (some 46), none⟩,
     o1 47 (.copy 12),
     o1 48 (.copy 11),
     ⟨false, [], [], .call 2 109 [.t 46, .t 47, .t 48] (.mt 8 [] 0 46 0), [49, 8, 46], (some 49), none⟩]))))
   (.rg [o1 50 (.data (.bin .add) [.t 37, .c (.int .i64 (1))]),
     o1 37 (.copy 50)])))))))))))
  (.rg [o1 51 (.data (.bin .add) [.t 27, .c (.int .i64 (1))]),
    o1 27 (.copy 51)]))))))))
 (.seq (.join [⟨8, [.sl [.i .i64]], false⟩] 590291306759078298048 (some [⟨6, [.sl [.i .i64]], false⟩, ⟨7, [.b], false⟩]) (.seq (.rg [o1 52 (.copy 2),
   o1 53 (.len 52),
   o1 54 (.lit [.i .i64] [.int .i64 (0)])])
 (.block 4 (.loop [⟨8, [.sl [.i .i64]], false⟩, ⟨54, [.i .i64], false⟩] 590277795960196186560
  (.seq (.rg [o1 55 (.data (.bin .lss) [.t 54, .t 53])])
  (.seq (.cond (.t 55)
   .skip
   (.exit 4))
  (.seq (.block 5 (.seq (.rg [o1 56 (.index 52 (.t 54)),
    o1 57 (.load 52 [(0, 2)] 0 (.t 56) 2 false),
    ⟨false, [], [], .det 2 (.a (.c [.i .i64, .i .i64] [.int .i64 (0), .int .i64 (0)])), [14, 1000000001], (some 14), none⟩,
    o4 1 [14] (.store 14 [] 0 .nil (.t 57))])
  (.seq (.seq (.rg [o1 58 (.copy 0),
    o1 59 (.load 14 [] 0 .nil 2 false),
    o3 60 113 [.t 58, .t 59],
    o1 61 (.data .not [.t 60])])
  (.cond (.t 61)
   (.seq (.rg [o1 6 (.lit [.sl [.i .i64]] [.slice none 0 0]),
     o1 7 (.lit [.b] [.bool false])])
   .ret)
   .skip))
  (.rg [⟨true, [], [], .det 1 (.copy 8), [62], (some 62), none⟩,
    o1 63 (.idx .nil),
    o1 64 (.load 14 [] 0 (.t 63) 1 false),
    o1 65 (.idx .nil),
    o1 66 (.load 14 [] 1 (.t 65) 1 false),
    ⟨false, [], [], .call 2 109 [.t 62, .t 64, .t 66] (.mt 8 [] 0 62 0), [67, 8, 62], (some 67), none⟩]))))
  (.rg [o1 68 (.data (.bin .add) [.t 54, .c (.int .i64 (1))]),
    o1 54 (.copy 68)]))))))))
 (.seq (.rg [⟨false, [], [], .det 2 (.copy 8), [69, 8], (some 69), none⟩,
   ⟨false, [], [], .det 2 (.copy 69), [6, 69], (some 6), none⟩,
   o1 7 (.lit [.b] [.bool true])])
 .ret))))))
def s_iWholeLabels : Sig := ⟨[.rd false [.d], .rd false [.sl (.own none) [.sl (.own none) [.d]]], .rd false [.sl (.own none) [.d, .d]]], (.tup [(false, 1), (false, 1)] [.sl (.own none) [.d], .d])⟩
noncomputable def E_iWholeLabels : TEnv := envOf [(101, p_iin), (108, p_ifirst), (109, p_iunion), (113, p_iEdgeOk)]
noncomputable def f_iWholeLabels (n : Nat) : Int × List (List (Int)) × (List (Int × Int)) → Option ((List (Int) × Bool) × Unit) := runFn n E_iWholeLabels c_iWholeLabels [[.i .i64], [.sl [.sl [.i .i64]]], [.sl [.i .i64, .i .i64]]] [.sl [.i .i64], .b] [] [6, 7] .no
noncomputable def g_iWholeLabels := f_iWholeLabels BIG
noncomputable def p_iWholeLabels : TSp := ⟨s_iWholeLabels, [[.i .i64], [.sl [.sl [.i .i64]]], [.sl [.i .i64, .i .i64]]], [.sl [.i .i64], .b], [], Ou.j .no, g_iWholeLabels⟩
theorem k_iWholeLabels : chkW PG E_iWholeLabels 40 s_iWholeLabels (c_iWholeLabels.ht 70) .no = some (c_iWholeLabels.wc E_iWholeLabels, [6, 7]) := by kernel_rfl
theorem ok_iWholeLabels : p_iWholeLabels.Ok PG 40 := mkOk (env_cons ok_iin (env_cons ok_ifirst (env_cons ok_iunion (env_cons ok_iEdgeOk (env_nil PG))))) k_iWholeLabels (by kernel_rfl)
theorem e_iWholeLabels (n : Nat) (a0 : Int) (a1 : List ((List (Int)))) (a2 : List (Int × Int)) : f_iWholeLabels n (a0, a1, a2) =
  Option.bind (Option.bind (g_iin (a0, (1 : Int), (12 : Int))) fun r0 =>
   bif !r0.1 then
    some true
   else some (decide ((3 : Int) < (a1.length : Int))) : Option (Bool)) fun x1 =>
  bif x1 then
   some (([], false), ())
  else Option.bind (g_ifirst a0) fun r2 =>
  Option.bind (loopT n (X := (List (Int)) × Int) (B := ((List (Int))) ⊕ ((List (Int)) × Bool)) (fun self4 x3 =>
    bif decide (x3.2 < (a1.length : Int)) then
     Option.bind (bnd a1.length x3.2 fun n5 =>
      Option.bind a1[n5]? fun y6 =>
      bif !decide ((y6.length : Int) = a0) then
       some (Sum.inr ([], false))
      else loopT n (X := (List (Int)) × Int) (B := ((List (Int))) ⊕ ((List (Int)) × Bool)) (fun self8 x7 =>
       bif decide (x7.2 < (y6.length : Int)) then
        bnd y6.length x7.2 fun n9 =>
        Option.bind y6[n9]? fun y10 =>
        Option.bind (g_iin (y10, (0 : Int), x7.2)) fun r11 =>
        bif !r11.1 then
         some (Sum.inr ([], false))
        else Option.bind (g_iunion (x7.1, y10, x7.2)) fun r12 =>
        self8 (r12.2, IntKind.wrap .i64 (x7.2 + (1 : Int)))
       else some (Sum.inl x7.1)) (x3.1, (0 : Int)) : Option (((List (Int))) ⊕ ((List (Int)) × Bool))) fun y => match y with
     | .inl x13 =>
      self4 (x13, IntKind.wrap .i64 (x3.2 + (1 : Int)))
     | .inr x13 =>
      some (Sum.inr (x13.1, x13.2))
    else some (Sum.inl x3.1)) (r2.1, (0 : Int)) : Option (((List (Int))) ⊕ ((List (Int)) × Bool))) fun y => match y with
  | .inl x14 =>
   Option.bind (loopT n (X := (List (Int)) × Int) (B := ((List (Int))) ⊕ ((List (Int)) × Bool)) (fun self16 x15 =>
     bif decide (x15.2 < (a2.length : Int)) then
      bnd a2.length x15.2 fun n17 =>
      Option.bind a2[n17]? fun y18 =>
      Option.bind (g_iEdgeOk (a0, y18)) fun r19 =>
      bif !r19.1 then
       some (Sum.inr ([], false))
      else Option.bind (g_iunion (x15.1, y18.1, y18.2)) fun r20 =>
      self16 (r20.2, IntKind.wrap .i64 (x15.2 + (1 : Int)))
     else some (Sum.inl x15.1)) (x14, (0 : Int)) : Option (((List (Int))) ⊕ ((List (Int)) × Bool))) fun y => match y with
   | .inl x21 =>
    some ((x21, true), ())
   | .inr x21 =>
    some (x21, ())
  | .inr x14 =>
   some (x14, ()) := by kernel_rfl
/- impl.yesNo -/
def c_iyesNo : TC :=
 (.seq (.rg [o1 2 (.lit [.i .i64] [.int .i64 (0)])])
 (.seq (.seq (.rg [o1 3 (.copy 0)])
 (.cond (.t 3)
  (.seq (.rg [o1 2 (.lit [.i .i64] [.int .i64 (1)])])
  .ret)
  .skip))
 (.seq (.rg [o1 2 (.lit [.i .i64] [.int .i64 (2)])])
 .ret)))
def s_iyesNo : Sig := ⟨[.rd false [.d]], (.one false [.d])⟩
noncomputable def E_iyesNo : TEnv := envOf []
noncomputable def f_iyesNo (n : Nat) : Bool → Option ((Int) × Unit) := runFn n E_iyesNo c_iyesNo [[.b]] [.i .i64] [] [2] .no
noncomputable def g_iyesNo := f_iyesNo BIG
noncomputable def p_iyesNo : TSp := ⟨s_iyesNo, [[.b]], [.i .i64], [], Ou.j .no, g_iyesNo⟩
theorem k_iyesNo : chkW PG E_iyesNo 178 s_iyesNo (c_iyesNo.ht 4) .no = some (c_iyesNo.wc E_iyesNo, [2]) := by kernel_rfl
theorem ok_iyesNo : p_iyesNo.Ok PG 178 := mkOk (env_nil PG) k_iyesNo (by kernel_rfl)
theorem e_iyesNo (n : Nat) (a0 : Bool) : f_iyesNo n a0 =
  bif a0 then
   some ((1 : Int), ())
  else some ((2 : Int), ()) := by kernel_rfl
/- impl.Head).order -/
def c_iHead_order : TC :=
 (.seq (.rg [o1 5 (.a (.t 1)),
   ⟨false, [], [], .det 2 (.a (.t 3)), [7, 3], (some 7), none⟩,
   o1 8 (.lit [.i .i64] [.int .i64 (0)])])
 (.seq (.rg [o1 9 (.p0),
   o1 10 (.same 9),
   o1 11 (.idx (.t 10)),
   o1 12 (.load 0 [] 4 (.t 11) 1 true),
   o1 13 (.copy 2),
   o1 14 (.data (.bin .sub) [.t 13, .c (.int .i64 (1))]),
   o1 15 (.index 12 (.t 14)),
   o1 16 (.load 0 [(4, 1)] 0 (.t 15) 1 false),
   o1 17 (.data (.bin .add) [.t 16, .c (.int .i64 (1))]),
   o1 18 (.idx .nil),
   o4 1 [7] (.store 7 [] 0 (.t 18) (.t 17))])
 (.seq (.rg [o1 19 (.p0),
   o1 20 (.load 5 [] 0 .nil 4 false),
   o1 21 (.copy 2),
   o1 22 (.load 7 [] 0 .nil 4 true),
   ⟨false, [22], [], .det 2 (.build [.i .i64, .i .i64, .i .i64, .i .i64, .i .i64, .i .i64, .i .i64, .sl [.i .i64, .i .i64], .i .i64] [(0, .t 20), (4, .t 21), (5, .t 22)]), [23, 22, 22, 7], (some 23), none⟩,
   o1 24 (.same 19),
   o1 25 (.idx (.t 24)),
   o4 2 [0, 23, 12, 15] (.store 0 [] 5 (.t 25) (.t 23))])
 (.seq (.rg [o1 8 (.lit [.i .i64] [.int .i64 (2)])])
 .ret))))
def s_iHead_order : Sig := ⟨[.mp [.d, .sl (.own none) [.d], .sl (.own none) [.d, .d], .sl (.own none) [.sl (.own none) [.d]], .sl (.own none) [.d], .d, .d, .d, .d, .d, .d, .d, .sl (.own none) [.d, .d], .d, .sl (.own none) [.d, .d, .d, .d, .d, .d]], .rd true [.d, .d, .d, .d], .rd false [.d], .tk true [.d, .d, .sl (.own none) [.d, .d], .d]], (.one false [.d])⟩
noncomputable def E_iHead_order : TEnv := envOf []
noncomputable def f_iHead_order (n : Nat) : (Int × List (Int) × List (Int × Int) × List (List (Int)) × List (Int) × Int × Int × Int × Int × Int × Int × Int × List (Int × Int) × Int × List (Int × Int × Int × Int × Int × Int)) × (Int × Int × Int × Int) × Int × (Int × Int × List (Int × Int) × Int) → Option ((Int) × Int × List (Int) × List (Int × Int) × List (List (Int)) × List (Int) × Int × Int × Int × Int × Int × Int × Int × List (Int × Int) × Int × List (Int × Int × Int × Int × Int × Int)) := runFn n E_iHead_order c_iHead_order [[.i .i64, .sl [.i .i64], .sl [.i .i64, .i .i64], .sl [.sl [.i .i64]], .sl [.i .i64], .i .i64, .i .i64, .i .i64, .i .i64, .i .i64, .i .i64, .i .i64, .sl [.i .i64, .i .i64], .i .i64, .sl [.i .i64, .i .i64, .i .i64, .i .i64, .i .i64, .i .i64]], [.i .i64, .i .i64, .i .i64, .i .i64], [.i .i64], [.i .i64, .i .i64, .sl [.i .i64, .i .i64], .i .i64]] [.i .i64] [.i .i64, .sl [.i .i64], .sl [.i .i64, .i .i64], .sl [.sl [.i .i64]], .sl [.i .i64], .i .i64, .i .i64, .i .i64, .i .i64, .i .i64, .i .i64, .i .i64, .sl [.i .i64, .i .i64], .i .i64, .sl [.i .i64, .i .i64, .i .i64, .i .i64, .i .i64, .i .i64]] [8] (.mp 0)
noncomputable def g_iHead_order := f_iHead_order BIG
noncomputable def p_iHead_order : TSp := ⟨s_iHead_order, [[.i .i64, .sl [.i .i64], .sl [.i .i64, .i .i64], .sl [.sl [.i .i64]], .sl [.i .i64], .i .i64, .i .i64, .i .i64, .i .i64, .i .i64, .i .i64, .i .i64, .sl [.i .i64, .i .i64], .i .i64, .sl [.i .i64, .i .i64, .i .i64, .i .i64, .i .i64, .i .i64]], [.i .i64, .i .i64, .i .i64, .i .i64], [.i .i64], [.i .i64, .i .i64, .sl [.i .i64, .i .i64], .i .i64]], [.i .i64], [.i .i64, .sl [.i .i64], .sl [.i .i64, .i .i64], .sl [.sl [.i .i64]], .sl [.i .i64], .i .i64, .i .i64, .i .i64, .i .i64, .i .i64, .i .i64, .i .i64, .sl [.i .i64, .i .i64], .i .i64, .sl [.i .i64, .i .i64, .i .i64, .i .i64, .i .i64, .i .i64]], Ou.j (.mp 0), g_iHead_order⟩
theorem k_iHead_order : chkW PG E_iHead_order 238 s_iHead_order (c_iHead_order.ht 26) (.mp 0) = some (c_iHead_order.wc E_iHead_order, [8]) := by kernel_rfl
theorem ok_iHead_order : p_iHead_order.Ok PG 238 := mkOk (env_nil PG) k_iHead_order (by kernel_rfl)
theorem e_iHead_order (n : Nat) (a0 : Int × List (Int) × List (Int × Int) × List ((List (Int))) × List (Int) × Int × Int × Int × Int × Int × Int × Int × List (Int × Int) × Int × List (Int × Int × Int × Int × Int × Int)) (a1 : Int × Int × Int × Int) (a2 : Int) (a3 : Int × Int × List (Int × Int) × Int) : f_iHead_order n (a0, a1, a2, a3) =
  bnd a0.2.2.2.2.1.length (IntKind.wrap .i64 (a2 - (1 : Int))) fun n0 =>
  Option.bind a0.2.2.2.2.1[n0]? fun y1 =>
  some ((2 : Int), (a0.1, a0.2.1, a0.2.2.1, a0.2.2.2.1, a0.2.2.2.2.1, a1.1, a1.2.1, a1.2.2.1, a1.2.2.2, a2, IntKind.wrap .i64 (y1 + (1 : Int)), a3.2.1, a3.2.2.1, a3.2.2.2, a0.2.2.2.2.2.2.2.2.2.2.2.2.2.2)) := by kernel_rfl
/- impl.edgeOf -/
def c_iedgeOf : TC :=
 (.seq (.rg [o1 1 (.a (.t 0)),
   ⟨false, [], [], .det 2 (.a (.c [.i .i64, .i .i64] [.int .i64 (0), .int .i64 (0)])), [2, 1000000001], (some 2), none⟩])
 (.seq (.rg [o1 3 (.idx .nil),
   o1 4 (.load 1 [] 2 (.t 3) 1 false),
   o1 5 (.idx .nil),
   o1 6 (.load 1 [] 3 (.t 5) 1 false),
   o1 7 (.data .min [.t 4, .t 6]),
   o1 8 (.idx .nil),
   o1 9 (.load 1 [] 2 (.t 8) 1 false),
   o1 10 (.idx .nil),
   o1 11 (.load 1 [] 3 (.t 10) 1 false),
   o1 12 (.data .max [.t 9, .t 11]),
   o1 13 (.build [.i .i64, .i .i64] [(0, .t 7), (1, .t 12)]),
   o4 1 [2] (.store 2 [] 0 .nil (.t 13))])
 .ret))
def s_iedgeOf : Sig := ⟨[.rd true [.d, .d, .d, .d]], (.one true [.d, .d])⟩
noncomputable def E_iedgeOf : TEnv := envOf []
noncomputable def f_iedgeOf (n : Nat) : (Int × Int × Int × Int) → Option ((Int × Int) × Unit) := runFn n E_iedgeOf c_iedgeOf [[.i .i64, .i .i64, .i .i64, .i .i64]] [.i .i64, .i .i64] [] [2] .no
noncomputable def g_iedgeOf := f_iedgeOf BIG
noncomputable def p_iedgeOf : TSp := ⟨s_iedgeOf, [[.i .i64, .i .i64, .i .i64, .i .i64]], [.i .i64, .i .i64], [], Ou.j .no, g_iedgeOf⟩
theorem k_iedgeOf : chkW PG E_iedgeOf 306 s_iedgeOf (c_iedgeOf.ht 14) .no = some (c_iedgeOf.wc E_iedgeOf, [2]) := by kernel_rfl
theorem ok_iedgeOf : p_iedgeOf.Ok PG 306 := mkOk (env_nil PG) k_iedgeOf (by kernel_rfl)
theorem e_iedgeOf (n : Nat) (a0 : Int × Int × Int × Int) : f_iedgeOf n a0 =
  some (((if a0.2.2.2 < a0.2.2.1 then a0.2.2.2 else a0.2.2.1), (if a0.2.2.2 > a0.2.2.1 then a0.2.2.2 else a0.2.2.1)), ()) := by kernel_rfl
/- impl.hasEdge -/
def c_ihasEdge : TC :=
 (.seq (.rg [o1 3 (.a (.t 1)),
   o1 4 (.lit [.b] [.bool false])])
 (.seq (.join [] 131024 (some [⟨4, [.b], false⟩]) (.seq (.rg [o1 7 (.copy 0),
   o1 8 (.len 7),
   o1 9 (.lit [.i .i64] [.int .i64 (0)])])
 (.block 0 (.loop [⟨9, [.i .i64], false⟩] 130640
  (.seq (.rg [o1 10 (.data (.bin .lss) [.t 9, .t 8])])
  (.seq (.cond (.t 10)
   .skip
   (.exit 0))
  (.seq (.block 1 (.seq (.rg [o1 11 (.index 7 (.t 9)),
    o1 12 (.load 7 [(0, 2)] 0 (.t 11) 2 false),
    ⟨false, [], [], .det 2 (.a (.c [.i .i64, .i .i64] [.int .i64 (0), .int .i64 (0)])), [6, 1000000001], (some 6), none⟩,
    o4 1 [6] (.store 6 [] 0 .nil (.t 12))])
  (.seq (.rg [o1 13 (.load 6 [] 0 .nil 2 false),
    o1 14 (.load 3 [] 0 .nil 2 false),
    o1 15 (.eqA [.i, .i] (.t 13) (.t 14) false)])
  (.cond (.t 15)
   (.seq (.rg [o1 4 (.lit [.b] [.bool true])])
   .ret)
   .skip))))
  (.rg [o1 16 (.data (.bin .add) [.t 9, .c (.int .i64 (1))]),
    o1 9 (.copy 16)]))))))))
 (.seq (.rg [o1 4 (.lit [.b] [.bool false])])
 .ret)))
def s_ihasEdge : Sig := ⟨[.rd false [.sl (.own none) [.d, .d]], .rd true [.d, .d]], (.one false [.d])⟩
noncomputable def E_ihasEdge : TEnv := envOf []
noncomputable def f_ihasEdge (n : Nat) : (List (Int × Int)) × (Int × Int) → Option ((Bool) × Unit) := runFn n E_ihasEdge c_ihasEdge [[.sl [.i .i64, .i .i64]], [.i .i64, .i .i64]] [.b] [] [4] .no
noncomputable def g_ihasEdge := f_ihasEdge BIG
noncomputable def p_ihasEdge : TSp := ⟨s_ihasEdge, [[.sl [.i .i64, .i .i64]], [.i .i64, .i .i64]], [.b], [], Ou.j .no, g_ihasEdge⟩
theorem k_ihasEdge : chkW PG E_ihasEdge 118 s_ihasEdge (c_ihasEdge.ht 17) .no = some (c_ihasEdge.wc E_ihasEdge, [4]) := by kernel_rfl
theorem ok_ihasEdge : p_ihasEdge.Ok PG 118 := mkOk (env_nil PG) k_ihasEdge (by kernel_rfl)
theorem e_ihasEdge (n : Nat) (a0 : List (Int × Int)) (a1 : Int × Int) : f_ihasEdge n (a0, a1) =
  Option.bind (loopT n (X := Int) (B := (Unit) ⊕ (Bool)) (fun self1 x0 =>
    bif decide (x0 < (a0.length : Int)) then
     bnd a0.length x0 fun n2 =>
     Option.bind a0[n2]? fun y3 =>
     bif (decide (y3.1 = a1.1) && (decide (y3.2 = a1.2) && true)) then
      some (Sum.inr true)
     else self1 (IntKind.wrap .i64 (x0 + (1 : Int)))
    else some (Sum.inl ())) (0 : Int) : Option ((Unit) ⊕ (Bool))) fun y => match y with
  | .inl x4 =>
   some (false, ())
  | .inr x4 =>
   some (x4, ()) := by kernel_rfl
/- impl.withEdge -/
def c_iwithEdge : TC :=
 (.seq (.rg [o1 3 (.a (.t 1)),
   o1 4 (.lit [.sl [.i .i64, .i .i64]] [.slice none 0 0])])
 (.seq (.rg [o1 5 (.lit [.i .i64] [.int .i64 (0)])])
 (.seq (.join [⟨5, [.i .i64], false⟩] 1048544 none (.block 0 (.loop [⟨5, [.i .i64], false⟩] 1048544
  (.seq (.seq (.join [⟨17, [.b], false⟩] 262080 none (.rg [o1 6 (.copy 5),
    o1 7 (.copy 0),
    o1 8 (.len 7),
    o1 9 (.data (.bin .lss) [.t 6, .t 8]),
    o1 10 (.copy 9),
    o2 11 (.copy 0) 4 true,
    o2 12 (.copy 5) 4 true,
    o2 13 (.index 11 (.t 12)) 4 true,
    o2 14 (.load 11 [(0, 2)] 0 (.t 13) 2 false) 4 true,
    o2 15 (.load 3 [] 0 .nil 2 false) 4 true,
    ⟨false, [], [], .call 1 234 [.t 14, .t 15] .no, [16], (some 16), some (4, true)⟩,
    ⟨false, [], [], .pick 10 (.t 16) (.c (.bool false)), [17], (some 17), none⟩]))
  (.cond (.t 17)
   .skip
   (.exit 0)))
  (.block 1 (.rg [o1 18 (.copy 5),
    o1 19 (.data (.bin .add) [.t 18, .c (.int .i64 (1))]),
    o1 5 (.copy 19)]))))))
 (.seq (.rg [o1 20 (.copy 0),
   o1 21 (.copy 5),
   o1 22 (.res 20 none (some (.t 21))),
   o1 23 (.app none 22),
   o1 24 (.load 3 [] 0 .nil 2 false),
   o1 25 (.sli [.i .i64, .i .i64] [.t 24]),
   ⟨false, [], [], .det 2 (.app (some 23) 25), [26, 23], (some 26), none⟩,
   o1 27 (.copy 0),
   o1 28 (.copy 5),
   o1 29 (.res 27 (some (.t 28)) none),
   ⟨false, [], [], .det 2 (.app (some 26) 29), [30, 26], (some 30), none⟩,
   ⟨false, [], [], .det 2 (.copy 30), [4, 30], (some 4), none⟩])
 .ret))))
def s_iwithEdge : Sig := ⟨[.rd false [.sl (.own none) [.d, .d]], .rd true [.d, .d]], (.one false [.sl (.own none) [.d, .d]])⟩
noncomputable def E_iwithEdge : TEnv := envOf [(234, p_iahead)]
noncomputable def f_iwithEdge (n : Nat) : (List (Int × Int)) × (Int × Int) → Option ((List (Int × Int)) × Unit) := runFn n E_iwithEdge c_iwithEdge [[.sl [.i .i64, .i .i64]], [.i .i64, .i .i64]] [.sl [.i .i64, .i .i64]] [] [4] .no
noncomputable def g_iwithEdge := f_iwithEdge BIG
noncomputable def p_iwithEdge : TSp := ⟨s_iwithEdge, [[.sl [.i .i64, .i .i64]], [.i .i64, .i .i64]], [.sl [.i .i64, .i .i64]], [], Ou.j .no, g_iwithEdge⟩
theorem k_iwithEdge : chkW PG E_iwithEdge 119 s_iwithEdge (c_iwithEdge.ht 31) .no = some (c_iwithEdge.wc E_iwithEdge, [4]) := by kernel_rfl
theorem ok_iwithEdge : p_iwithEdge.Ok PG 119 := mkOk (env_cons ok_iahead (env_nil PG)) k_iwithEdge (by kernel_rfl)
theorem e_iwithEdge (n : Nat) (a0 : List (Int × Int)) (a1 : Int × Int) : f_iwithEdge n (a0, a1) =
  Option.bind (loopT n (X := Int) (B := Int) (fun self1 x0 =>
    Option.bind (bif decide (x0 < (a0.length : Int)) then
      bnd a0.length x0 fun n2 =>
      Option.bind a0[n2]? fun y3 =>
      Option.bind (g_iahead (y3, a1)) fun r4 =>
      some r4.1
     else some false : Option (Bool)) fun x5 =>
    bif x5 then
     self1 (IntKind.wrap .i64 (x0 + (1 : Int)))
    else some x0) (0 : Int) : Option (Int)) fun x6 =>
  bif decide (0 ≤ x6) then
   bif decide (0 ≤ (Int.toNat x6) ∧ (Int.toNat x6) ≤ a0.length) then
    bif decide ((List.take ((Int.toNat x6) - 0) (List.drop 0 a0)).length ≤ 4294967296) then
     bif decide ((List.take ((Int.toNat x6) - 0) (List.drop 0 a0)).length + [a1].length ≤ 4294967296) then
      bif decide (0 ≤ x6) then
       bif decide ((Int.toNat x6) ≤ a0.length ∧ a0.length ≤ a0.length) then
        bif decide (((List.take ((Int.toNat x6) - 0) (List.drop 0 a0)) ++ [a1]).length + (List.take (a0.length - (Int.toNat x6)) (List.drop (Int.toNat x6) a0)).length ≤ 4294967296) then
         some (((List.take ((Int.toNat x6) - 0) (List.drop 0 a0)) ++ [a1]) ++ (List.take (a0.length - (Int.toNat x6)) (List.drop (Int.toNat x6) a0)), ())
        else none
       else none
      else none
     else none
    else none
   else none
  else none := by kernel_rfl
/- impl.withoutEdge -/
def c_iwithoutEdge : TC :=
 (.seq (.rg [o1 3 (.a (.t 1)),
   o1 4 (.lit [.sl [.i .i64, .i .i64]] [.slice none 0 0])])
 (.seq (.rg [o1 5 (.lit [.sl [.i .i64, .i .i64]] [.slice none 0 0])])
 (.seq (.join [⟨5, [.sl [.i .i64, .i .i64]], false⟩] 4194208 none (.seq (.rg [o1 8 (.copy 0),
   o1 9 (.len 8),
   o1 10 (.lit [.i .i64] [.int .i64 (0)])])
 (.block 0 (.loop [⟨5, [.sl [.i .i64, .i .i64]], false⟩, ⟨10, [.i .i64], false⟩] 4193440
  (.seq (.rg [o1 11 (.data (.bin .lss) [.t 10, .t 9])])
  (.seq (.cond (.t 11)
   .skip
   (.exit 0))
  (.seq (.join [⟨5, [.sl [.i .i64, .i .i64]], false⟩] 2093216 none (.block 1 (.seq (.rg [o1 12 (.index 8 (.t 10)),
    o1 13 (.load 8 [(0, 2)] 0 (.t 12) 2 false),
    ⟨false, [], [], .det 2 (.a (.c [.i .i64, .i .i64] [.int .i64 (0), .int .i64 (0)])), [7, 1000000001], (some 7), none⟩,
    o4 1 [7] (.store 7 [] 0 .nil (.t 13))])
  (.seq (.rg [o1 14 (.load 7 [] 0 .nil 2 false),
    o1 15 (.load 3 [] 0 .nil 2 false),
    o1 16 (.eqA [.i, .i] (.t 14) (.t 15) true)])
  (.cond (.t 16)
   (.rg [⟨false, [], [], .det 2 (.copy 5), [17, 5], (some 17), none⟩,
     o1 18 (.load 7 [] 0 .nil 2 false),
     o1 19 (.sli [.i .i64, .i .i64] [.t 18]),
     ⟨false, [], [], .det 2 (.app (some 17) 19), [20, 17], (some 20), none⟩,
     ⟨false, [], [], .det 2 (.copy 20), [5, 20], (some 5), none⟩])
   .skip)))))
  (.rg [o1 21 (.data (.bin .add) [.t 10, .c (.int .i64 (1))]),
    o1 10 (.copy 21)]))))))))
 (.seq (.rg [⟨false, [], [], .det 2 (.copy 5), [22, 5], (some 22), none⟩,
   ⟨false, [], [], .det 2 (.copy 22), [4, 22], (some 4), none⟩])
 .ret))))
def s_iwithoutEdge : Sig := ⟨[.rd false [.sl (.own none) [.d, .d]], .rd true [.d, .d]], (.one false [.sl (.own none) [.d, .d]])⟩
noncomputable def E_iwithoutEdge : TEnv := envOf []
noncomputable def f_iwithoutEdge (n : Nat) : (List (Int × Int)) × (Int × Int) → Option ((List (Int × Int)) × Unit) := runFn n E_iwithoutEdge c_iwithoutEdge [[.sl [.i .i64, .i .i64]], [.i .i64, .i .i64]] [.sl [.i .i64, .i .i64]] [] [4] .no
noncomputable def g_iwithoutEdge := f_iwithoutEdge BIG
noncomputable def p_iwithoutEdge : TSp := ⟨s_iwithoutEdge, [[.sl [.i .i64, .i .i64]], [.i .i64, .i .i64]], [.sl [.i .i64, .i .i64]], [], Ou.j .no, g_iwithoutEdge⟩
theorem k_iwithoutEdge : chkW PG E_iwithoutEdge 287 s_iwithoutEdge (c_iwithoutEdge.ht 23) .no = some (c_iwithoutEdge.wc E_iwithoutEdge, [4]) := by kernel_rfl
theorem ok_iwithoutEdge : p_iwithoutEdge.Ok PG 287 := mkOk (env_nil PG) k_iwithoutEdge (by kernel_rfl)
theorem e_iwithoutEdge (n : Nat) (a0 : List (Int × Int)) (a1 : Int × Int) : f_iwithoutEdge n (a0, a1) =
  Option.bind (loopT n (X := (List (Int × Int)) × Int) (B := (List (Int × Int))) (fun self1 x0 =>
    bif decide (x0.2 < (a0.length : Int)) then
     Option.bind (bnd a0.length x0.2 fun n2 =>
      Option.bind a0[n2]? fun y3 =>
      bif !(decide (y3.1 = a1.1) && (decide (y3.2 = a1.2) && true)) then
       bif decide (x0.1.length + [y3].length ≤ 4294967296) then
        some (x0.1 ++ [y3])
       else none
      else some x0.1 : Option ((List (Int × Int)))) fun x4 =>
     self1 (x4, IntKind.wrap .i64 (x0.2 + (1 : Int)))
    else some x0.1) ([], (0 : Int)) : Option ((List (Int × Int)))) fun x5 =>
  some (x5, ()) := by kernel_rfl
/- impl.Head).edge -/
def c_iHead_edge : TC :=
 (.seq (.rg [o1 3 (.a (.t 1)),
   o1 4 (.lit [.i .i64] [.int .i64 (0)])])
 (.seq (.rg [o1 7 (.load 3 [] 0 .nil 4 false),
   o3 8 306 [.t 7],
   ⟨false, [], [], .det 2 (.a (.c [.i .i64, .i .i64] [.int .i64 (0), .int .i64 (0)])), [5, 1000000001], (some 5), none⟩,
   o4 1 [5] (.store 5 [] 0 .nil (.t 8))])
 (.seq (.rg [o1 9 (.p0),
   o1 10 (.same 9),
   o1 11 (.idx (.t 10)),
   o1 12 (.load 0 [] 2 (.t 11) 1 true),
   o1 13 (.load 5 [] 0 .nil 2 false),
   o3 14 118 [.t 12, .t 13],
   o1 6 (.copy 14)])
 (.seq (.join [⟨0, [.i .i64, .sl [.i .i64], .sl [.i .i64, .i .i64], .sl [.sl [.i .i64]], .sl [.i .i64], .i .i64, .i .i64, .i .i64, .i .i64, .i .i64, .i .i64, .i .i64, .sl [.i .i64, .i .i64], .i .i64, .sl [.i .i64, .i .i64, .i .i64, .i .i64, .i .i64, .i .i64]], false⟩] 10633823966279326983230456482242727953 (some [⟨4, [.i .i64], false⟩, ⟨0, [.i .i64, .sl [.i .i64], .sl [.i .i64, .i .i64], .sl [.sl [.i .i64]], .sl [.i .i64], .i .i64, .i .i64, .i .i64, .i .i64, .i .i64, .i .i64, .i .i64, .sl [.i .i64, .i .i64], .i .i64, .sl [.i .i64, .i .i64, .i .i64, .i .i64, .i .i64, .i .i64]], false⟩]) (.block 0 (.seq (.join [⟨15, [.b], false⟩] 274877874176 none (.rg [o1 16 (.p0),
   o1 17 (.same 16),
   o1 18 (.idx (.t 17)),
   o1 19 (.load 0 [] 1 (.t 18) 1 true),
   o1 20 (.idx .nil),
   o1 21 (.load 5 [] 0 (.t 20) 1 false),
   o1 22 (.index 19 (.t 21)),
   o1 23 (.load 0 [(1, 1)] 0 (.t 22) 1 false),
   o1 24 (.p0),
   o1 25 (.same 24),
   o1 26 (.idx (.t 25)),
   o1 27 (.load 0 [] 1 (.t 26) 1 true),
   o1 28 (.idx .nil),
   o1 29 (.load 5 [] 1 (.t 28) 1 false),
   o1 30 (.index 27 (.t 29)),
   o1 31 (.load 0 [(1, 1)] 0 (.t 30) 1 false),
   o1 32 (.data (.bin .eql) [.t 23, .t 31]),
   o1 33 (.copy 32),
   o2 34 (.idx .nil) 17 true,
   o2 35 (.load 3 [] 1 (.t 34) 1 false) 17 true,
   o2 36 (.data (.bin .eql) [.t 35, .c (.int .i64 (1))]) 17 true,
   ⟨false, [], [], .pick 33 (.t 36) (.c (.bool false)), [37], (some 37), none⟩,
   o1 15 (.copy 37)]))
 (.cond (.t 15)
  (.seq (.rg [o1 38 (.p0),
    ⟨false, [], [1000000002], .det 1 (.load 3 [] 0 .nil 4 false), [39], (some 39), none⟩,
    o1 40 (.p0),
    ⟨false, [], [1000000002], .det 1 (.same 40), [41], (some 41), none⟩,
    ⟨false, [], [1000000002], .det 1 (.idx (.t 41)), [42], (some 42), none⟩,
    ⟨false, [], [1000000002], .det 1 (.load 0 [] 1 (.t 42) 1 true), [43], (some 43), none⟩,
    ⟨false, [], [1000000002], .det 1 (.idx .nil), [44], (some 44), none⟩,
    ⟨false, [], [1000000002], .det 1 (.load 5 [] 0 (.t 44) 1 false), [45], (some 45), none⟩,
    ⟨false, [], [1000000002], .det 1 (.index 43 (.t 45)), [46], (some 46), none⟩,
    ⟨false, [], [1000000002], .det 1 (.load 0 [(1, 1)] 0 (.t 46) 1 false), [47], (some 47), none⟩,
    o1 48 (.load 5 [] 0 .nil 2 false),
    o1 49 (.sli [.i .i64, .i .i64] [.t 48]),
    ⟨false, [], [], .det 3 (.build [.i .i64, .i .i64, .sl [.i .i64, .i .i64], .i .i64] [(1, .c [.i .i64] [.int .i64 (1)]), (2, .t 49)]), [50, 1000000002, 49], (some 50), none⟩,
    ⟨false, [], [], .call 3 238 [.t 0, .t 39, .t 47, .t 50] (.mp 0), [51, 0, 50, 12, 19, 22, 27, 30, 46, 43], (some 51), none⟩,
    o1 4 (.copy 51)])
  .ret)
  (.seq (.rg [o1 53 (.p0),
    o1 54 (.same 53),
    o1 55 (.idx (.t 54)),
    o1 56 (.load 0 [] 1 (.t 55) 1 true),
    o1 57 (.idx .nil),
    o1 58 (.load 5 [] 0 (.t 57) 1 false),
    o1 59 (.index 56 (.t 58)),
    o1 60 (.load 0 [(1, 1)] 0 (.t 59) 1 false),
    o1 61 (.p0),
    o1 62 (.same 61),
    o1 63 (.idx (.t 62)),
    o1 64 (.load 0 [] 1 (.t 63) 1 true),
    o1 65 (.idx .nil),
    o1 66 (.load 5 [] 1 (.t 65) 1 false),
    o1 67 (.index 64 (.t 66)),
    o1 68 (.load 0 [(1, 1)] 0 (.t 67) 1 false),
    o1 69 (.data (.bin .eql) [.t 60, .t 68]),
    o1 52 (.copy 69)])
  (.cond (.t 52)
   (.seq (.rg [o1 70 (.p0),
     ⟨false, [], [1000000002], .det 1 (.load 3 [] 0 .nil 4 false), [71], (some 71), none⟩,
     o1 72 (.p0),
     ⟨false, [], [1000000002], .det 1 (.same 72), [73], (some 73), none⟩,
     ⟨false, [], [1000000002], .det 1 (.idx (.t 73)), [74], (some 74), none⟩,
     ⟨false, [], [1000000002], .det 1 (.load 0 [] 1 (.t 74) 1 true), [75], (some 75), none⟩,
     ⟨false, [], [1000000002], .det 1 (.idx .nil), [76], (some 76), none⟩,
     ⟨false, [], [1000000002], .det 1 (.load 5 [] 0 (.t 76) 1 false), [77], (some 77), none⟩,
     ⟨false, [], [1000000002], .det 1 (.index 75 (.t 77)), [78], (some 78), none⟩,
     ⟨false, [], [1000000002], .det 1 (.load 0 [(1, 1)] 0 (.t 78) 1 false), [79], (some 79), none⟩,
     o1 80 (.load 5 [] 0 .nil 2 false),
     o1 81 (.sli [.i .i64, .i .i64] [.t 80]),
     ⟨false, [], [], .det 3 (.build [.i .i64, .i .i64, .sl [.i .i64, .i .i64], .i .i64] [(1, .c [.i .i64] [.int .i64 (2)]), (2, .t 81)]), [82, 1000000002, 81], (some 82), none⟩,
     ⟨false, [], [], .call 3 238 [.t 0, .t 71, .t 79, .t 82] (.mp 0), [83, 0, 82, 12, 19, 22, 27, 30, 56, 59, 64, 67, 78, 75], (some 83), none⟩,
     o1 4 (.copy 83)])
   .ret)
   (.seq (.join [⟨84, [.b], false⟩] 4932417344027687032801198080 none (.rg [o1 85 (.idx .nil),
     o1 86 (.load 3 [] 1 (.t 85) 1 false),
     o1 87 (.data (.bin .eql) [.t 86, .c (.int .i64 (1))]),
     o1 88 (.copy 87),
     o2 89 (.copy 6) 3 true,
     o2 90 (.data .not [.t 89]) 3 true,
     ⟨false, [], [], .pick 88 (.t 90) (.c (.bool false)), [91], (some 91), none⟩,
     o1 84 (.copy 91)]))
   (.cond (.t 84)
    (.seq (.rg [o1 92 (.p0),
      o1 93 (.p0),
      o1 94 (.same 93),
      o1 95 (.idx (.t 94)),
      o1 96 (.load 0 [] 2 (.t 95) 1 true),
      o1 97 (.load 5 [] 0 .nil 2 false),
      o3 98 119 [.t 96, .t 97],
      o1 99 (.same 92),
      o1 100 (.idx (.t 99)),
      o4 2 [0, 98, 12, 19, 22, 27, 30, 56, 59, 64, 67, 96] (.store 0 [] 2 (.t 100) (.t 98))])
    (.seq (.rg [o1 101 (.p0),
      o1 102 (.load 3 [] 0 .nil 4 false),
      ⟨false, [], [], .call 2 177 [.t 0, .t 102, .c [.i .i64] [.int .i64 (1)]] (.mp 0), [103, 0], (some 103), none⟩,
      o1 4 (.copy 103)])
    .ret))
    (.seq (.join [⟨104, [.b], false⟩] 2575866019663762143841300913324032 none (.rg [o1 105 (.idx .nil),
      o1 106 (.load 3 [] 1 (.t 105) 1 false),
      o1 107 (.data (.bin .eql) [.t 106, .c (.int .i64 (2))]),
      o1 108 (.copy 107),
      o2 109 (.copy 6) 3 true,
      ⟨false, [], [], .pick 108 (.t 109) (.c (.bool false)), [110], (some 110), none⟩,
      o1 104 (.copy 110)]))
    (.cond (.t 104)
     (.seq (.rg [o1 111 (.p0),
       o1 112 (.p0),
       o1 113 (.same 112),
       o1 114 (.idx (.t 113)),
       o1 115 (.load 0 [] 2 (.t 114) 1 true),
       o1 116 (.load 5 [] 0 .nil 2 false),
       o3 117 287 [.t 115, .t 116],
       o1 118 (.same 111),
       o1 119 (.idx (.t 118)),
       o4 2 [0, 117, 12, 19, 22, 27, 30, 56, 59, 64, 67, 115] (.store 0 [] 2 (.t 119) (.t 117))])
     (.seq (.rg [o1 120 (.p0),
       o1 121 (.load 3 [] 0 .nil 4 false),
       ⟨false, [], [], .call 2 177 [.t 0, .t 121, .c [.i .i64] [.int .i64 (1)]] (.mp 0), [122, 0], (some 122), none⟩,
       o1 4 (.copy 122)])
     .ret))
     .skip))))))))))
 (.seq (.rg [o1 123 (.p0),
   o1 124 (.load 3 [] 0 .nil 4 false),
   ⟨false, [], [], .call 2 177 [.t 0, .t 124, .c [.i .i64] [.int .i64 (2)]] (.mp 0), [125, 0, 12, 19, 22, 27, 30, 56, 59, 64, 67], (some 125), none⟩,
   o1 4 (.copy 125)])
 .ret)))))
def s_iHead_edge : Sig := ⟨[.mp [.d, .sl (.own none) [.d], .sl (.own none) [.d, .d], .sl (.own none) [.sl (.own none) [.d]], .sl (.own none) [.d], .d, .d, .d, .d, .d, .d, .d, .sl (.own none) [.d, .d], .d, .sl (.own none) [.d, .d, .d, .d, .d, .d]], .rd true [.d, .d, .d, .d]], (.one false [.d])⟩
noncomputable def E_iHead_edge : TEnv := envOf [(306, p_iedgeOf), (118, p_ihasEdge), (238, p_iHead_order), (119, p_iwithEdge), (177, p_iHead_say), (287, p_iwithoutEdge)]
noncomputable def f_iHead_edge (n : Nat) : (Int × List (Int) × List (Int × Int) × List (List (Int)) × List (Int) × Int × Int × Int × Int × Int × Int × Int × List (Int × Int) × Int × List (Int × Int × Int × Int × Int × Int)) × (Int × Int × Int × Int) → Option ((Int) × Int × List (Int) × List (Int × Int) × List (List (Int)) × List (Int) × Int × Int × Int × Int × Int × Int × Int × List (Int × Int) × Int × List (Int × Int × Int × Int × Int × Int)) := runFn n E_iHead_edge c_iHead_edge [[.i .i64, .sl [.i .i64], .sl [.i .i64, .i .i64], .sl [.sl [.i .i64]], .sl [.i .i64], .i .i64, .i .i64, .i .i64, .i .i64, .i .i64, .i .i64, .i .i64, .sl [.i .i64, .i .i64], .i .i64, .sl [.i .i64, .i .i64, .i .i64, .i .i64, .i .i64, .i .i64]], [.i .i64, .i .i64, .i .i64, .i .i64]] [.i .i64] [.i .i64, .sl [.i .i64], .sl [.i .i64, .i .i64], .sl [.sl [.i .i64]], .sl [.i .i64], .i .i64, .i .i64, .i .i64, .i .i64, .i .i64, .i .i64, .i .i64, .sl [.i .i64, .i .i64], .i .i64, .sl [.i .i64, .i .i64, .i .i64, .i .i64, .i .i64, .i .i64]] [4] (.mp 0)
noncomputable def g_iHead_edge := f_iHead_edge BIG
noncomputable def p_iHead_edge : TSp := ⟨s_iHead_edge, [[.i .i64, .sl [.i .i64], .sl [.i .i64, .i .i64], .sl [.sl [.i .i64]], .sl [.i .i64], .i .i64, .i .i64, .i .i64, .i .i64, .i .i64, .i .i64, .i .i64, .sl [.i .i64, .i .i64], .i .i64, .sl [.i .i64, .i .i64, .i .i64, .i .i64, .i .i64, .i .i64]], [.i .i64, .i .i64, .i .i64, .i .i64]], [.i .i64], [.i .i64, .sl [.i .i64], .sl [.i .i64, .i .i64], .sl [.sl [.i .i64]], .sl [.i .i64], .i .i64, .i .i64, .i .i64, .i .i64, .i .i64, .i .i64, .i .i64, .sl [.i .i64, .i .i64], .i .i64, .sl [.i .i64, .i .i64, .i .i64, .i .i64, .i .i64, .i .i64]], Ou.j (.mp 0), g_iHead_edge⟩
theorem k_iHead_edge : chkW PG E_iHead_edge 239 s_iHead_edge (c_iHead_edge.ht 126) (.mp 0) = some (c_iHead_edge.wc E_iHead_edge, [4]) := by kernel_rfl
theorem ok_iHead_edge : p_iHead_edge.Ok PG 239 := mkOk (env_cons ok_iedgeOf (env_cons ok_ihasEdge (env_cons ok_iHead_order (env_cons ok_iwithEdge (env_cons ok_iHead_say (env_cons ok_iwithoutEdge (env_nil PG))))))) k_iHead_edge (by kernel_rfl)
theorem e_iHead_edge (n : Nat) (a0 : Int × List (Int) × List (Int × Int) × List ((List (Int))) × List (Int) × Int × Int × Int × Int × Int × Int × Int × List (Int × Int) × Int × List (Int × Int × Int × Int × Int × Int)) (a1 : Int × Int × Int × Int) : f_iHead_edge n (a0, a1) =
  Option.bind (g_iedgeOf a1) fun r0 =>
  Option.bind (g_ihasEdge (a0.2.2.1, r0.1)) fun r1 =>
  Option.bind (Option.bind (bnd a0.2.1.length r0.1.1 fun n2 =>
    Option.bind a0.2.1[n2]? fun y3 =>
    bnd a0.2.1.length r0.1.2 fun n4 =>
    Option.bind a0.2.1[n4]? fun y5 =>
    bif decide (y3 = y5) then
     some (decide (a1.2.1 = (1 : Int)))
    else some false : Option (Bool)) fun x6 =>
   bif x6 then
    bnd a0.2.1.length r0.1.1 fun n7 =>
    Option.bind a0.2.1[n7]? fun y8 =>
    Option.bind (g_iHead_order (a0, a1, y8, ((0 : Int), (1 : Int), [r0.1], (0 : Int)))) fun r9 =>
    some (Sum.inr (r9.1, r9.2))
   else bnd a0.2.1.length r0.1.1 fun n10 =>
   Option.bind a0.2.1[n10]? fun y11 =>
   bnd a0.2.1.length r0.1.2 fun n12 =>
   Option.bind a0.2.1[n12]? fun y13 =>
   bif decide (y11 = y13) then
    bnd a0.2.1.length r0.1.1 fun n14 =>
    Option.bind a0.2.1[n14]? fun y15 =>
    Option.bind (g_iHead_order (a0, a1, y15, ((0 : Int), (2 : Int), [r0.1], (0 : Int)))) fun r16 =>
    some (Sum.inr (r16.1, r16.2))
   else Option.bind (bif decide (a1.2.1 = (1 : Int)) then
     some !r1.1
    else some false : Option (Bool)) fun x17 =>
   bif x17 then
    Option.bind (g_iwithEdge (a0.2.2.1, r0.1)) fun r18 =>
    Option.bind (g_iHead_say ((a0.1, a0.2.1, r18.1, a0.2.2.2), a1, (1 : Int))) fun r19 =>
    some (Sum.inr (r19.1, r19.2))
   else Option.bind (bif decide (a1.2.1 = (2 : Int)) then
     some r1.1
    else some false : Option (Bool)) fun x20 =>
   bif x20 then
    Option.bind (g_iwithoutEdge (a0.2.2.1, r0.1)) fun r21 =>
    Option.bind (g_iHead_say ((a0.1, a0.2.1, r21.1, a0.2.2.2), a1, (1 : Int))) fun r22 =>
    some (Sum.inr (r22.1, r22.2))
   else some (Sum.inl a0) : Option (((Int × List (Int) × List (Int × Int) × List ((List (Int))) × List (Int) × Int × Int × Int × Int × Int × Int × Int × List (Int × Int) × Int × List (Int × Int × Int × Int × Int × Int))) ⊕ (Int × (Int × List (Int) × List (Int × Int) × List ((List (Int))) × List (Int) × Int × Int × Int × Int × Int × Int × Int × List (Int × Int) × Int × List (Int × Int × Int × Int × Int × Int))))) fun y => match y with
  | .inl x23 =>
   Option.bind (g_iHead_say (x23, a1, (2 : Int))) fun r24 =>
   some (r24.1, r24.2)
  | .inr x23 =>
   some (x23.1, x23.2) := by kernel_rfl
/- impl.Head).take -/
def c_iHead_take : TC :=
 (.seq (.rg [o1 3 (.a (.t 1)),
   o1 4 (.lit [.i .i64] [.int .i64 (0)])])
 (.seq (.join [⟨0, [.i .i64, .sl [.i .i64], .sl [.i .i64, .i .i64], .sl [.sl [.i .i64]], .sl [.i .i64], .i .i64, .i .i64, .i .i64, .i .i64, .i .i64, .i .i64, .i .i64, .sl [.i .i64, .i .i64], .i .i64, .sl [.i .i64, .i .i64, .i .i64, .i .i64, .i .i64, .i .i64]], false⟩] 618970019642690137449562097 (some [⟨4, [.i .i64], false⟩, ⟨0, [.i .i64, .sl [.i .i64], .sl [.i .i64, .i .i64], .sl [.sl [.i .i64]], .sl [.i .i64], .i .i64, .i .i64, .i .i64, .i .i64, .i .i64, .i .i64, .i .i64, .sl [.i .i64, .i .i64], .i .i64, .sl [.i .i64, .i .i64, .i .i64, .i .i64, .i .i64, .i .i64]], false⟩]) (.block 0 (.seq (.rg [o1 8 (.p0),
   o1 9 (.same 8),
   o1 10 (.load 0 [] 0 (.t 9) 15 true),
   o1 11 (.load 3 [] 0 .nil 4 false),
   o3 12 237 [.t 10, .t 11],
   o1 7 (.copy 12)])
 (.cond (.t 7)
  (.seq (.rg [o1 13 (.p0),
    o1 14 (.load 3 [] 0 .nil 4 false),
    ⟨false, [], [], .call 2 177 [.t 0, .t 14, .c [.i .i64] [.int .i64 (3)]] (.mp 0), [15, 0, 10], (some 15), none⟩,
    o1 4 (.copy 15)])
  .ret)
  (.seq (.rg [o1 17 (.idx .nil),
    o1 18 (.load 3 [] 1 (.t 17) 1 false),
    o1 19 (.data (.bin .eql) [.t 18, .c (.int .i64 (3))]),
    o1 16 (.copy 19)])
  (.cond (.t 16)
   (.seq (.rg [o1 21 (.p0),
     o1 22 (.same 21),
     o1 23 (.idx (.t 22)),
     o1 24 (.load 0 [] 0 (.t 23) 1 false),
     o1 25 (.p0),
     o1 26 (.same 25),
     o1 27 (.idx (.t 26)),
     o1 28 (.load 0 [] 3 (.t 27) 1 true),
     o1 29 (.p0),
     o1 30 (.same 29),
     o1 31 (.idx (.t 30)),
     o1 32 (.load 0 [] 2 (.t 31) 1 true),
     o3 33 40 [.t 24, .t 28, .t 32],
     ⟨false, [], [], .det 2 (.copy 33), [20, 33], (some 20), none⟩,
     ⟨false, [], [], .det 2 (.ext 20 0 1), [34, 20], (some 34), none⟩,
     o1 35 (.ext 20 1 1),
     ⟨false, [], [], .det 2 (.copy 34), [5, 34], (some 5), none⟩,
     o1 6 (.copy 35)])
   (.seq (.rg [o1 36 (.p0),
     o1 37 (.load 3 [] 0 .nil 4 false),
     ⟨true, [], [], .det 1 (.copy 5), [38], (some 38), none⟩,
     o1 39 (.idx .nil),
     o1 40 (.load 3 [] 2 (.t 39) 1 false),
     o1 41 (.index 38 (.t 40)),
     o1 42 (.load 5 [(0, 1)] 0 (.t 41) 1 false),
     ⟨true, [], [], .det 1 (.copy 5), [43], (some 43), none⟩,
     o1 44 (.idx .nil),
     o1 45 (.load 3 [] 3 (.t 44) 1 false),
     o1 46 (.index 43 (.t 45)),
     o1 47 (.load 5 [(0, 1)] 0 (.t 46) 1 false),
     o1 48 (.data (.bin .eql) [.t 42, .t 47]),
     o3 49 178 [.t 48],
     ⟨false, [], [], .call 2 177 [.t 0, .t 37, .t 49] (.mp 0), [50, 0, 10, 28, 32], (some 50), none⟩,
     o1 4 (.copy 50)])
   .ret))
   (.seq (.join [⟨51, [.b], false⟩] 295145653379539140608 none (.rg [o1 52 (.idx .nil),
     o1 53 (.load 3 [] 1 (.t 52) 1 false),
     o1 54 (.data (.bin .eql) [.t 53, .c (.int .i64 (4))]),
     o1 55 (.copy 54),
     o2 56 (.p0) 3 true,
     o2 57 (.same 56) 3 true,
     o2 58 (.idx (.t 57)) 3 true,
     o2 59 (.load 0 [] 1 (.t 58) 1 true) 3 true,
     o2 60 (.idx .nil) 3 true,
     o2 61 (.load 3 [] 2 (.t 60) 1 false) 3 true,
     o2 62 (.index 59 (.t 61)) 3 true,
     o2 63 (.load 0 [(1, 1)] 0 (.t 62) 1 false) 3 true,
     o2 64 (.idx .nil) 3 true,
     o2 65 (.load 3 [] 3 (.t 64) 1 false) 3 true,
     o2 66 (.data (.bin .eql) [.t 63, .t 65]) 3 true,
     ⟨false, [], [], .pick 55 (.t 66) (.c (.bool false)), [67], (some 67), none⟩,
     o1 51 (.copy 67)]))
   (.cond (.t 51)
    (.seq (.rg [o1 68 (.p0),
      o1 69 (.load 3 [] 0 .nil 4 false),
      ⟨false, [], [], .call 2 177 [.t 0, .t 69, .c [.i .i64] [.int .i64 (2)]] (.mp 0), [70, 0, 10], (some 70), none⟩,
      o1 4 (.copy 70)])
    .ret)
    (.seq (.rg [o1 72 (.idx .nil),
      o1 73 (.load 3 [] 1 (.t 72) 1 false),
      o1 74 (.data (.bin .eql) [.t 73, .c (.int .i64 (4))]),
      o1 71 (.copy 74)])
    (.cond (.t 71)
     (.seq (.rg [o1 75 (.p0),
       ⟨false, [], [1000000002], .det 1 (.load 3 [] 0 .nil 4 false), [76], (some 76), none⟩,
       o1 77 (.p0),
       ⟨false, [], [1000000002], .det 1 (.same 77), [78], (some 78), none⟩,
       ⟨false, [], [1000000002], .det 1 (.idx (.t 78)), [79], (some 79), none⟩,
       ⟨false, [], [1000000002], .det 1 (.load 0 [] 1 (.t 79) 1 true), [80], (some 80), none⟩,
       ⟨false, [], [1000000002], .det 1 (.idx .nil), [81], (some 81), none⟩,
       ⟨false, [], [1000000002], .det 1 (.load 3 [] 2 (.t 81) 1 false), [82], (some 82), none⟩,
       ⟨false, [], [1000000002], .det 1 (.index 80 (.t 82)), [83], (some 83), none⟩,
       ⟨false, [], [1000000002], .det 1 (.load 0 [(1, 1)] 0 (.t 83) 1 false), [84], (some 84), none⟩,
       o1 85 (.idx .nil),
       o1 86 (.load 3 [] 2 (.t 85) 1 false),
       ⟨false, [], [], .det 2 (.build [.i .i64, .i .i64, .sl [.i .i64, .i .i64], .i .i64] [(1, .c [.i .i64] [.int .i64 (3)]), (3, .t 86)]), [87, 1000000002], (some 87), none⟩,
       ⟨false, [], [], .call 3 238 [.t 0, .t 76, .t 84, .t 87] (.mp 0), [88, 0, 87, 10, 83, 80], (some 88), none⟩,
       o1 4 (.copy 88)])
     .ret)
     .skip))))))))))
 (.seq (.rg [o1 89 (.p0),
   o1 90 (.load 3 [] 0 .nil 4 false),
   ⟨false, [], [], .call 2 239 [.t 0, .t 90] (.mp 0), [91, 0, 10], (some 91), none⟩,
   o1 4 (.copy 91)])
 .ret)))
def s_iHead_take : Sig := ⟨[.mp [.d, .sl (.own none) [.d], .sl (.own none) [.d, .d], .sl (.own none) [.sl (.own none) [.d]], .sl (.own none) [.d], .d, .d, .d, .d, .d, .d, .d, .sl (.own none) [.d, .d], .d, .sl (.own none) [.d, .d, .d, .d, .d, .d]], .rd true [.d, .d, .d, .d]], (.one false [.d])⟩
noncomputable def E_iHead_take : TEnv := envOf [(237, p_ibadAsk), (177, p_iHead_say), (40, p_iWholeLabels), (178, p_iyesNo), (238, p_iHead_order), (239, p_iHead_edge)]
noncomputable def f_iHead_take (n : Nat) : (Int × List (Int) × List (Int × Int) × List (List (Int)) × List (Int) × Int × Int × Int × Int × Int × Int × Int × List (Int × Int) × Int × List (Int × Int × Int × Int × Int × Int)) × (Int × Int × Int × Int) → Option ((Int) × Int × List (Int) × List (Int × Int) × List (List (Int)) × List (Int) × Int × Int × Int × Int × Int × Int × Int × List (Int × Int) × Int × List (Int × Int × Int × Int × Int × Int)) := runFn n E_iHead_take c_iHead_take [[.i .i64, .sl [.i .i64], .sl [.i .i64, .i .i64], .sl [.sl [.i .i64]], .sl [.i .i64], .i .i64, .i .i64, .i .i64, .i .i64, .i .i64, .i .i64, .i .i64, .sl [.i .i64, .i .i64], .i .i64, .sl [.i .i64, .i .i64, .i .i64, .i .i64, .i .i64, .i .i64]], [.i .i64, .i .i64, .i .i64, .i .i64]] [.i .i64] [.i .i64, .sl [.i .i64], .sl [.i .i64, .i .i64], .sl [.sl [.i .i64]], .sl [.i .i64], .i .i64, .i .i64, .i .i64, .i .i64, .i .i64, .i .i64, .i .i64, .sl [.i .i64, .i .i64], .i .i64, .sl [.i .i64, .i .i64, .i .i64, .i .i64, .i .i64, .i .i64]] [4] (.mp 0)
noncomputable def g_iHead_take := f_iHead_take BIG
noncomputable def p_iHead_take : TSp := ⟨s_iHead_take, [[.i .i64, .sl [.i .i64], .sl [.i .i64, .i .i64], .sl [.sl [.i .i64]], .sl [.i .i64], .i .i64, .i .i64, .i .i64, .i .i64, .i .i64, .i .i64, .i .i64, .sl [.i .i64, .i .i64], .i .i64, .sl [.i .i64, .i .i64, .i .i64, .i .i64, .i .i64, .i .i64]], [.i .i64, .i .i64, .i .i64, .i .i64]], [.i .i64], [.i .i64, .sl [.i .i64], .sl [.i .i64, .i .i64], .sl [.sl [.i .i64]], .sl [.i .i64], .i .i64, .i .i64, .i .i64, .i .i64, .i .i64, .i .i64, .i .i64, .sl [.i .i64, .i .i64], .i .i64, .sl [.i .i64, .i .i64, .i .i64, .i .i64, .i .i64, .i .i64]], Ou.j (.mp 0), g_iHead_take⟩
theorem k_iHead_take : chkW PG E_iHead_take 122 s_iHead_take (c_iHead_take.ht 92) (.mp 0) = some (c_iHead_take.wc E_iHead_take, [4]) := by kernel_rfl
theorem ok_iHead_take : p_iHead_take.Ok PG 122 := mkOk (env_cons ok_ibadAsk (env_cons ok_iHead_say (env_cons ok_iWholeLabels (env_cons ok_iyesNo (env_cons ok_iHead_order (env_cons ok_iHead_edge (env_nil PG))))))) k_iHead_take (by kernel_rfl)
theorem e_iHead_take (n : Nat) (a0 : Int × List (Int) × List (Int × Int) × List ((List (Int))) × List (Int) × Int × Int × Int × Int × Int × Int × Int × List (Int × Int) × Int × List (Int × Int × Int × Int × Int × Int)) (a1 : Int × Int × Int × Int) : f_iHead_take n (a0, a1) =
  Option.bind (Option.bind (g_ibadAsk (a0, a1)) fun r0 =>
   bif r0.1 then
    Option.bind (g_iHead_say (a0, a1, (3 : Int))) fun r1 =>
    some (Sum.inr (r1.1, r1.2))
   else bif decide (a1.2.1 = (3 : Int)) then
    Option.bind (g_iWholeLabels (a0.1, a0.2.2.2.1, a0.2.2.1)) fun r2 =>
    bnd r2.1.1.length a1.2.2.1 fun n3 =>
    Option.bind r2.1.1[n3]? fun y4 =>
    bnd r2.1.1.length a1.2.2.2 fun n5 =>
    Option.bind r2.1.1[n5]? fun y6 =>
    Option.bind (g_iyesNo (decide (y4 = y6))) fun r7 =>
    Option.bind (g_iHead_say (a0, a1, r7.1)) fun r8 =>
    some (Sum.inr (r8.1, r8.2))
   else Option.bind (bif decide (a1.2.1 = (4 : Int)) then
     bnd a0.2.1.length a1.2.2.1 fun n9 =>
     Option.bind a0.2.1[n9]? fun y10 =>
     some (decide (y10 = a1.2.2.2))
    else some false : Option (Bool)) fun x11 =>
   bif x11 then
    Option.bind (g_iHead_say (a0, a1, (2 : Int))) fun r12 =>
    some (Sum.inr (r12.1, r12.2))
   else bif decide (a1.2.1 = (4 : Int)) then
    bnd a0.2.1.length a1.2.2.1 fun n13 =>
    Option.bind a0.2.1[n13]? fun y14 =>
    Option.bind (g_iHead_order (a0, a1, y14, ((0 : Int), (3 : Int), [], a1.2.2.1))) fun r15 =>
    some (Sum.inr (r15.1, r15.2))
   else some (Sum.inl a0) : Option (((Int × List (Int) × List (Int × Int) × List ((List (Int))) × List (Int) × Int × Int × Int × Int × Int × Int × Int × List (Int × Int) × Int × List (Int × Int × Int × Int × Int × Int))) ⊕ (Int × (Int × List (Int) × List (Int × Int) × List ((List (Int))) × List (Int) × Int × Int × Int × Int × Int × Int × Int × List (Int × Int) × Int × List (Int × Int × Int × Int × Int × Int))))) fun y => match y with
  | .inl x16 =>
   Option.bind (g_iHead_edge (x16, a1)) fun r17 =>
   some (r17.1, r17.2)
  | .inr x16 =>
   some (x16.1, x16.2) := by kernel_rfl
/- impl.Take -/
def c_iTake : TC :=
 (.seq (.rg [o1 2 (.a (.t 0)),
   o1 3 (.a (.t 1)),
   ⟨false, [], [], .det 2 (.a (.c [.i .i64, .sl [.i .i64], .sl [.i .i64, .i .i64], .sl [.sl [.i .i64]], .sl [.i .i64], .i .i64, .i .i64, .i .i64, .i .i64, .i .i64, .i .i64, .i .i64, .sl [.i .i64, .i .i64], .i .i64, .sl [.i .i64, .i .i64, .i .i64, .i .i64, .i .i64, .i .i64]] [.int .i64 (0), .slice none 0 0, .slice none 0 0, .slice none 0 0, .slice none 0 0, .int .i64 (0), .int .i64 (0), .int .i64 (0), .int .i64 (0), .int .i64 (0), .int .i64 (0), .int .i64 (0), .slice none 0 0, .int .i64 (0), .slice none 0 0])), [4, 1000000001], (some 4), none⟩,
   o1 5 (.lit [.i .i64] [.int .i64 (0)])])
 (.seq (.rg [o1 8 (.load 2 [] 0 .nil 15 false),
   o3 9 120 [.t 8],
   ⟨false, [], [], .det 2 (.a (.c [.i .i64, .sl [.i .i64], .sl [.i .i64, .i .i64], .sl [.sl [.i .i64]], .sl [.i .i64], .i .i64, .i .i64, .i .i64, .i .i64, .i .i64, .i .i64, .i .i64, .sl [.i .i64, .i .i64], .i .i64, .sl [.i .i64, .i .i64, .i .i64, .i .i64, .i .i64, .i .i64]] [.int .i64 (0), .slice none 0 0, .slice none 0 0, .slice none 0 0, .slice none 0 0, .int .i64 (0), .int .i64 (0), .int .i64 (0), .int .i64 (0), .int .i64 (0), .int .i64 (0), .int .i64 (0), .slice none 0 0, .int .i64 (0), .slice none 0 0])), [6, 1000000001], (some 6), none⟩,
   o4 2 [6, 9] (.store 6 [] 0 .nil (.t 9))])
 (.seq (.seq (.join [⟨36, [.b], false⟩] 137438952448 none (.rg [o1 10 (.load 2 [] 0 .nil 15 false),
   o3 11 47 [.t 10],
   o1 12 (.data .not [.t 11]),
   o1 13 (.copy 12),
   o2 14 (.idx .nil) 3 false,
   o2 15 (.load 3 [] 0 (.t 14) 1 false) 3 false,
   ⟨false, [], [], .call 1 101 [.t 15, .c [.i .i64] [.int .i64 (1)], .c [.i .i64] [.int .i64 (100000)]] .no, [16], (some 16), some (3, false)⟩,
   o2 17 (.data .not [.t 16]) 3 false,
   ⟨false, [], [], .pick 13 (.c (.bool true)) (.t 17), [18], (some 18), none⟩,
   o1 19 (.copy 18),
   o2 20 (.idx .nil) 9 false,
   o2 21 (.load 2 [] 14 (.t 20) 1 false) 9 false,
   o2 22 (.idx .nil) 9 false,
   o2 23 (.load 3 [] 0 (.t 22) 1 false) 9 false,
   ⟨false, [], [], .call 1 121 [.t 21, .t 23] .no, [24], (some 24), some (9, false)⟩,
   o2 25 (.data (.bin .geq) [.t 24, .c (.int .i64 (0))]) 9 false,
   ⟨false, [], [], .pick 19 (.c (.bool true)) (.t 25), [26], (some 26), none⟩,
   o1 27 (.copy 26),
   o2 28 (.load 2 [] 0 .nil 15 false) 17 false,
   ⟨false, [], [], .call 1 48 [.t 28] .no, [29], (some 29), some (17, false)⟩,
   ⟨false, [], [], .pick 27 (.c (.bool true)) (.t 29), [30], (some 30), none⟩,
   o1 31 (.copy 30),
   o2 32 (.idx .nil) 21 false,
   o2 33 (.load 2 [] 14 (.t 32) 1 false) 21 false,
   o2 34 (.len 33) 21 false,
   o2 35 (.data (.bin .geq) [.t 34, .c (.int .i64 (80))]) 21 false,
   ⟨false, [], [], .pick 31 (.c (.bool true)) (.t 35), [36], (some 36), none⟩]))
 (.cond (.t 36)
  (.seq (.rg [o1 37 (.load 6 [] 0 .nil 15 true),
    ⟨false, [37], [], .det 2 (.store 4 [] 0 .nil (.t 37)), [4, 37, 37, 6], none, none⟩,
    o1 5 (.lit [.i .i64] [.int .i64 (0)])])
  .ret)
  .skip))
 (.seq (.rg [o1 38 (.load 3 [] 0 .nil 4 false),
   ⟨false, [], [], .call 2 122 [.t 6, .t 38] (.mp 0), [39, 6], (some 39), none⟩,
   o1 7 (.copy 39)])
 (.seq (.rg [o1 40 (.load 6 [] 0 .nil 15 true),
   o1 41 (.copy 7),
   ⟨false, [40], [], .det 2 (.store 4 [] 0 .nil (.t 40)), [4, 40, 40, 6], none, none⟩,
   o1 5 (.copy 41)])
 .ret)))))
def s_iTake : Sig := ⟨[.rd true [.d, .sl (.own none) [.d], .sl (.own none) [.d, .d], .sl (.own none) [.sl (.own none) [.d]], .sl (.own none) [.d], .d, .d, .d, .d, .d, .d, .d, .sl (.own none) [.d, .d], .d, .sl (.own none) [.d, .d, .d, .d, .d, .d]], .rd true [.d, .d, .d, .d]], (.tup [(true, 15), (false, 1)] [.d, .sl (.own none) [.d], .sl (.own none) [.d, .d], .sl (.own none) [.sl (.own none) [.d]], .sl (.own none) [.d], .d, .d, .d, .d, .d, .d, .d, .sl (.own none) [.d, .d], .d, .sl (.own none) [.d, .d, .d, .d, .d, .d], .d])⟩
noncomputable def E_iTake : TEnv := envOf [(120, p_icopyHead), (47, p_iHeadOk), (101, p_iin), (121, p_isaidAt), (48, p_iBusy), (122, p_iHead_take)]
noncomputable def f_iTake (n : Nat) : (Int × List (Int) × List (Int × Int) × List (List (Int)) × List (Int) × Int × Int × Int × Int × Int × Int × Int × List (Int × Int) × Int × List (Int × Int × Int × Int × Int × Int)) × (Int × Int × Int × Int) → Option ((Int × List (Int) × List (Int × Int) × List (List (Int)) × List (Int) × Int × Int × Int × Int × Int × Int × Int × List (Int × Int) × Int × List (Int × Int × Int × Int × Int × Int) × Int) × Unit) := runFn n E_iTake c_iTake [[.i .i64, .sl [.i .i64], .sl [.i .i64, .i .i64], .sl [.sl [.i .i64]], .sl [.i .i64], .i .i64, .i .i64, .i .i64, .i .i64, .i .i64, .i .i64, .i .i64, .sl [.i .i64, .i .i64], .i .i64, .sl [.i .i64, .i .i64, .i .i64, .i .i64, .i .i64, .i .i64]], [.i .i64, .i .i64, .i .i64, .i .i64]] [.i .i64, .sl [.i .i64], .sl [.i .i64, .i .i64], .sl [.sl [.i .i64]], .sl [.i .i64], .i .i64, .i .i64, .i .i64, .i .i64, .i .i64, .i .i64, .i .i64, .sl [.i .i64, .i .i64], .i .i64, .sl [.i .i64, .i .i64, .i .i64, .i .i64, .i .i64, .i .i64], .i .i64] [] [4, 5] .no
noncomputable def g_iTake := f_iTake BIG
noncomputable def p_iTake : TSp := ⟨s_iTake, [[.i .i64, .sl [.i .i64], .sl [.i .i64, .i .i64], .sl [.sl [.i .i64]], .sl [.i .i64], .i .i64, .i .i64, .i .i64, .i .i64, .i .i64, .i .i64, .i .i64, .sl [.i .i64, .i .i64], .i .i64, .sl [.i .i64, .i .i64, .i .i64, .i .i64, .i .i64, .i .i64]], [.i .i64, .i .i64, .i .i64, .i .i64]], [.i .i64, .sl [.i .i64], .sl [.i .i64, .i .i64], .sl [.sl [.i .i64]], .sl [.i .i64], .i .i64, .i .i64, .i .i64, .i .i64, .i .i64, .i .i64, .i .i64, .sl [.i .i64, .i .i64], .i .i64, .sl [.i .i64, .i .i64, .i .i64, .i .i64, .i .i64, .i .i64], .i .i64], [], Ou.j .no, g_iTake⟩
theorem k_iTake : chkW PG E_iTake 45 s_iTake (c_iTake.ht 42) .no = some (c_iTake.wc E_iTake, [4, 5]) := by kernel_rfl
theorem ok_iTake : p_iTake.Ok PG 45 := mkOk (env_cons ok_icopyHead (env_cons ok_iHeadOk (env_cons ok_iin (env_cons ok_isaidAt (env_cons ok_iBusy (env_cons ok_iHead_take (env_nil PG))))))) k_iTake (by kernel_rfl)
theorem e_iTake (n : Nat) (a0 : Int × List (Int) × List (Int × Int) × List ((List (Int))) × List (Int) × Int × Int × Int × Int × Int × Int × Int × List (Int × Int) × Int × List (Int × Int × Int × Int × Int × Int)) (a1 : Int × Int × Int × Int) : f_iTake n (a0, a1) =
  Option.bind (g_icopyHead a0) fun r0 =>
  Option.bind (Option.bind (g_iHeadOk a0) fun r1 =>
   bif !r1.1 then
    some true
   else Option.bind (g_iin (a1.1, (1 : Int), (100000 : Int))) fun r2 =>
   bif !r2.1 then
    some true
   else Option.bind (g_isaidAt (a0.2.2.2.2.2.2.2.2.2.2.2.2.2.2, a1.1)) fun r3 =>
   bif decide ((0 : Int) ≤ r3.1) then
    some true
   else Option.bind (g_iBusy a0) fun r4 =>
   bif r4.1 then
    some true
   else some (decide ((80 : Int) ≤ (a0.2.2.2.2.2.2.2.2.2.2.2.2.2.2.length : Int))) : Option (Bool)) fun x5 =>
  bif x5 then
   some ((r0.1.1, r0.1.2.1, r0.1.2.2.1, r0.1.2.2.2.1, r0.1.2.2.2.2.1, r0.1.2.2.2.2.2.1, r0.1.2.2.2.2.2.2.1, r0.1.2.2.2.2.2.2.2.1, r0.1.2.2.2.2.2.2.2.2.1, r0.1.2.2.2.2.2.2.2.2.2.1, r0.1.2.2.2.2.2.2.2.2.2.2.1, r0.1.2.2.2.2.2.2.2.2.2.2.2.1, r0.1.2.2.2.2.2.2.2.2.2.2.2.2.1, r0.1.2.2.2.2.2.2.2.2.2.2.2.2.2.1, r0.1.2.2.2.2.2.2.2.2.2.2.2.2.2.2, (0 : Int)), ())
  else Option.bind (g_iHead_take (r0.1, a1)) fun r6 =>
  some ((r6.2.1, r6.2.2.1, r6.2.2.2.1, r6.2.2.2.2.1, r6.2.2.2.2.2.1, r6.2.2.2.2.2.2.1, r6.2.2.2.2.2.2.2.1, r6.2.2.2.2.2.2.2.2.1, r6.2.2.2.2.2.2.2.2.2.1, r6.2.2.2.2.2.2.2.2.2.2.1, r6.2.2.2.2.2.2.2.2.2.2.2.1, r6.2.2.2.2.2.2.2.2.2.2.2.2.1, r6.2.2.2.2.2.2.2.2.2.2.2.2.2.1, r6.2.2.2.2.2.2.2.2.2.2.2.2.2.2.1, r6.2.2.2.2.2.2.2.2.2.2.2.2.2.2.2, r6.1), ()) := by kernel_rfl
/- impl.ReplyOf -/
def c_iReplyOf : TC :=
 (.seq (.rg [o1 2 (.a (.t 0)),
   o1 4 (.lit [.i .i64] [.int .i64 (0)]),
   o1 5 (.lit [.b] [.bool false])])
 (.seq (.rg [o1 7 (.idx .nil),
   o1 8 (.load 2 [] 14 (.t 7) 1 false),
   o1 9 (.copy 1),
   o3 10 121 [.t 8, .t 9],
   o1 6 (.copy 10)])
 (.seq (.seq (.rg [o1 11 (.copy 6),
   o1 12 (.data (.bin .lss) [.t 11, .c (.int .i64 (0))])])
 (.cond (.t 12)
  (.seq (.rg [o1 4 (.lit [.i .i64] [.int .i64 (0)]),
    o1 5 (.lit [.b] [.bool false])])
  .ret)
  .skip))
 (.seq (.rg [o1 13 (.idx .nil),
   o1 14 (.load 2 [] 14 (.t 13) 1 false),
   o1 15 (.copy 6),
   o1 16 (.index 14 (.t 15)),
   o1 17 (.idx (.t 16)),
   o1 18 (.load 14 [(0, 6)] 5 (.t 17) 1 false),
   o1 4 (.copy 18),
   o1 5 (.lit [.b] [.bool true])])
 .ret))))
def s_iReplyOf : Sig := ⟨[.rd true [.d, .sl (.own none) [.d], .sl (.own none) [.d, .d], .sl (.own none) [.sl (.own none) [.d]], .sl (.own none) [.d], .d, .d, .d, .d, .d, .d, .d, .sl (.own none) [.d, .d], .d, .sl (.own none) [.d, .d, .d, .d, .d, .d]], .rd false [.d]], (.tup [(false, 1), (false, 1)] [.d, .d])⟩
noncomputable def E_iReplyOf : TEnv := envOf [(121, p_isaidAt)]
noncomputable def f_iReplyOf (n : Nat) : (Int × List (Int) × List (Int × Int) × List (List (Int)) × List (Int) × Int × Int × Int × Int × Int × Int × Int × List (Int × Int) × Int × List (Int × Int × Int × Int × Int × Int)) × Int → Option ((Int × Bool) × Unit) := runFn n E_iReplyOf c_iReplyOf [[.i .i64, .sl [.i .i64], .sl [.i .i64, .i .i64], .sl [.sl [.i .i64]], .sl [.i .i64], .i .i64, .i .i64, .i .i64, .i .i64, .i .i64, .i .i64, .i .i64, .sl [.i .i64, .i .i64], .i .i64, .sl [.i .i64, .i .i64, .i .i64, .i .i64, .i .i64, .i .i64]], [.i .i64]] [.i .i64, .b] [] [4, 5] .no
noncomputable def g_iReplyOf := f_iReplyOf BIG
noncomputable def p_iReplyOf : TSp := ⟨s_iReplyOf, [[.i .i64, .sl [.i .i64], .sl [.i .i64, .i .i64], .sl [.sl [.i .i64]], .sl [.i .i64], .i .i64, .i .i64, .i .i64, .i .i64, .i .i64, .i .i64, .i .i64, .sl [.i .i64, .i .i64], .i .i64, .sl [.i .i64, .i .i64, .i .i64, .i .i64, .i .i64, .i .i64]], [.i .i64]], [.i .i64, .b], [], Ou.j .no, g_iReplyOf⟩
theorem k_iReplyOf : chkW PG E_iReplyOf 46 s_iReplyOf (c_iReplyOf.ht 19) .no = some (c_iReplyOf.wc E_iReplyOf, [4, 5]) := by kernel_rfl
theorem ok_iReplyOf : p_iReplyOf.Ok PG 46 := mkOk (env_cons ok_isaidAt (env_nil PG)) k_iReplyOf (by kernel_rfl)
theorem e_iReplyOf (n : Nat) (a0 : Int × List (Int) × List (Int × Int) × List ((List (Int))) × List (Int) × Int × Int × Int × Int × Int × Int × Int × List (Int × Int) × Int × List (Int × Int × Int × Int × Int × Int)) (a1 : Int) : f_iReplyOf n (a0, a1) =
  Option.bind (g_isaidAt (a0.2.2.2.2.2.2.2.2.2.2.2.2.2.2, a1)) fun r0 =>
  bif decide (r0.1 < (0 : Int)) then
   some (((0 : Int), false), ())
  else bnd a0.2.2.2.2.2.2.2.2.2.2.2.2.2.2.length r0.1 fun n1 =>
  Option.bind a0.2.2.2.2.2.2.2.2.2.2.2.2.2.2[n1]? fun y2 =>
  some ((y2.2.2.2.2.2, true), ()) := by kernel_rfl
/- laws.FnHeadNew -/
def c_lFnHeadNew : TC :=
 (.seq (.rg [o1 2 (.lit [.b] [.bool false])])
 (.seq (.seq (.rg [o1 15 (.copy 0),
   o3 16 17 [.t 15]])
 (.cond (.t 16)
  (.seq (.rg [o1 2 (.lit [.b] [.bool true])])
  .ret)
  .skip))
 (.seq (.rg [o1 18 (.copy 0),
   o3 19 42 [.t 18],
   ⟨false, [], [], .det 2 (.copy 19), [17, 19], (some 17), none⟩,
   o1 20 (.ext 17 0 1),
   o1 21 (.ext 17 1 1),
   o1 3 (.copy 20),
   o1 4 (.copy 21)])
 (.seq (.rg [o1 23 (.copy 3),
   o1 24 (.copy 4),
   o3 25 43 [.t 23, .t 24],
   ⟨false, [], [], .det 2 (.copy 25), [22, 25], (some 22), none⟩,
   ⟨false, [], [], .det 2 (.ext 22 0 15), [26, 22], (some 26), none⟩,
   o1 27 (.ext 22 15 1),
   ⟨false, [], [], .det 2 (.a (.c [.i .i64, .sl [.i .i64], .sl [.i .i64, .i .i64], .sl [.sl [.i .i64]], .sl [.i .i64], .i .i64, .i .i64, .i .i64, .i .i64, .i .i64, .i .i64, .i .i64, .sl [.i .i64, .i .i64], .i .i64, .sl [.i .i64, .i .i64, .i .i64, .i .i64, .i .i64, .i .i64]] [.int .i64 (0), .slice none 0 0, .slice none 0 0, .slice none 0 0, .slice none 0 0, .int .i64 (0), .int .i64 (0), .int .i64 (0), .int .i64 (0), .int .i64 (0), .int .i64 (0), .int .i64 (0), .slice none 0 0, .int .i64 (0), .slice none 0 0])), [5, 1000000001], (some 5), none⟩,
   o4 2 [5, 26] (.store 5 [] 0 .nil (.t 26)),
   o1 6 (.copy 27)])
 (.seq (.rg [o1 29 (.copy 3),
   o1 30 (.copy 4),
   o3 31 44 [.t 29, .t 30],
   ⟨false, [], [], .det 2 (.copy 31), [28, 31], (some 28), none⟩,
   ⟨false, [], [], .det 2 (.ext 28 0 15), [32, 28], (some 32), none⟩,
   o1 33 (.ext 28 15 1),
   ⟨false, [], [], .det 2 (.a (.c [.i .i64, .sl [.i .i64], .sl [.i .i64, .i .i64], .sl [.sl [.i .i64]], .sl [.i .i64], .i .i64, .i .i64, .i .i64, .i .i64, .i .i64, .i .i64, .i .i64, .sl [.i .i64, .i .i64], .i .i64, .sl [.i .i64, .i .i64, .i .i64, .i .i64, .i .i64, .i .i64]] [.int .i64 (0), .slice none 0 0, .slice none 0 0, .slice none 0 0, .slice none 0 0, .int .i64 (0), .int .i64 (0), .int .i64 (0), .int .i64 (0), .int .i64 (0), .int .i64 (0), .int .i64 (0), .slice none 0 0, .int .i64 (0), .slice none 0 0])), [7, 1000000001], (some 7), none⟩,
   o4 2 [7, 32] (.store 7 [] 0 .nil (.t 32)),
   o1 8 (.copy 33)])
 (.seq (.seq (.rg [o1 34 (.copy 6),
   o1 35 (.copy 8),
   o1 36 (.data (.beq true) [.t 34, .t 35])])
 (.cond (.t 36)
  (.seq (.rg [o1 2 (.lit [.b] [.bool false])])
  .ret)
  .skip))
 (.seq (.seq (.rg [o1 37 (.copy 6),
   o1 38 (.data .not [.t 37])])
 (.cond (.t 38)
  (.seq (.rg [o1 39 (.idx .nil),
    o1 40 (.load 5 [] 0 (.t 39) 1 false),
    o1 41 (.data (.bin .eql) [.t 40, .c (.int .i64 (0))]),
    o1 2 (.copy 41)])
  .ret)
  .skip))
 (.seq (.rg [o1 43 (.load 5 [] 0 .nil 15 true),
   ⟨false, [], [], .det 3 (.build [.i .i64, .i .i64, .i .i64, .i .i64] [(0, .c [.i .i64] [.int .i64 (5)]), (1, .c [.i .i64] [.int .i64 (9)])]), [44, 1000000001, 1000000002], (some 44), none⟩,
   o3 45 45 [.t 43, .t 44],
   ⟨false, [], [], .det 2 (.copy 45), [42, 45], (some 42), none⟩,
   ⟨false, [], [], .det 2 (.ext 42 0 15), [46, 42], (some 46), none⟩,
   o1 47 (.ext 42 15 1),
   ⟨false, [], [], .det 2 (.a (.c [.i .i64, .sl [.i .i64], .sl [.i .i64, .i .i64], .sl [.sl [.i .i64]], .sl [.i .i64], .i .i64, .i .i64, .i .i64, .i .i64, .i .i64, .i .i64, .i .i64, .sl [.i .i64, .i .i64], .i .i64, .sl [.i .i64, .i .i64, .i .i64, .i .i64, .i .i64, .i .i64]] [.int .i64 (0), .slice none 0 0, .slice none 0 0, .slice none 0 0, .slice none 0 0, .int .i64 (0), .int .i64 (0), .int .i64 (0), .int .i64 (0), .int .i64 (0), .int .i64 (0), .int .i64 (0), .slice none 0 0, .int .i64 (0), .slice none 0 0])), [9, 1000000001], (some 9), none⟩,
   o4 2 [9, 46] (.store 9 [] 0 .nil (.t 46)),
   o1 10 (.copy 47)])
 (.seq (.rg [o1 49 (.load 9 [] 0 .nil 15 true),
   o3 50 46 [.t 49, .c [.i .i64] [.int .i64 (5)]],
   ⟨false, [], [], .det 2 (.copy 50), [48, 50], (some 48), none⟩,
   o1 51 (.ext 48 0 1),
   o1 52 (.ext 48 1 1),
   o1 11 (.copy 51),
   o1 12 (.copy 52)])
 (.seq (.rg [o1 54 (.load 5 [] 0 .nil 15 true),
   o3 55 46 [.t 54, .c [.i .i64] [.int .i64 (5)]],
   ⟨false, [], [], .det 2 (.copy 55), [53, 55], (some 53), none⟩,
   o1 56 (.ext 53 0 1),
   o1 57 (.ext 53 1 1),
   o1 13 (.copy 56),
   o1 14 (.copy 57)])
 (.seq (.join [⟨2, [.b], false⟩] 1208925531384253022994436 none (.rg [o1 58 (.load 5 [] 0 .nil 15 true),
   o3 59 47 [.t 58],
   o1 60 (.copy 59),
   o2 61 (.load 5 [] 0 .nil 15 true) 2 true,
   ⟨false, [], [], .call 1 48 [.t 61] .no, [62], (some 62), some (2, true)⟩,
   o2 63 (.data .not [.t 62]) 2 true,
   ⟨false, [], [], .pick 60 (.t 63) (.c (.bool false)), [64], (some 64), none⟩,
   o1 65 (.copy 64),
   o2 66 (.copy 10) 7 true,
   o2 67 (.data (.bin .eql) [.t 66, .c (.int .i64 (1))]) 7 true,
   ⟨false, [], [], .pick 65 (.t 67) (.c (.bool false)), [68], (some 68), none⟩,
   o1 69 (.copy 68),
   o2 70 (.copy 12) 11 true,
   ⟨false, [], [], .pick 69 (.t 70) (.c (.bool false)), [71], (some 71), none⟩,
   o1 72 (.copy 71),
   o2 73 (.copy 11) 14 true,
   o2 74 (.data (.bin .eql) [.t 73, .c (.int .i64 (3))]) 14 true,
   ⟨false, [], [], .pick 72 (.t 74) (.c (.bool false)), [75], (some 75), none⟩,
   o1 76 (.copy 75),
   o2 77 (.copy 14) 18 true,
   o2 78 (.data .not [.t 77]) 18 true,
   ⟨false, [], [], .pick 76 (.t 78) (.c (.bool false)), [79], (some 79), none⟩,
   o1 2 (.copy 79)]))
 .ret)))))))))))
def s_lFnHeadNew : Sig := ⟨[.rd false [.sl (.own none) [.d]]], (.one false [.d])⟩
noncomputable def E_lFnHeadNew : TEnv := envOf [(17, p_lbig), (42, p_sDrawHeadNew), (43, p_iHeadNew), (44, p_sHeadNew), (45, p_iTake), (46, p_iReplyOf), (47, p_iHeadOk), (48, p_iBusy)]
noncomputable def f_lFnHeadNew (n : Nat) : List (Int) → Option ((Bool) × Unit) := runFn n E_lFnHeadNew c_lFnHeadNew [[.sl [.i .u8]]] [.b] [] [2] .no
noncomputable def g_lFnHeadNew := f_lFnHeadNew BIG
noncomputable def p_lFnHeadNew : TSp := ⟨s_lFnHeadNew, [[.sl [.i .u8]]], [.b], [], Ou.j .no, g_lFnHeadNew⟩
theorem k_lFnHeadNew : chkW PG E_lFnHeadNew 9 s_lFnHeadNew (c_lFnHeadNew.ht 80) .no = some (c_lFnHeadNew.wc E_lFnHeadNew, [2]) := by kernel_rfl
theorem ok_lFnHeadNew : p_lFnHeadNew.Ok PG 9 := mkOk (env_cons ok_lbig (env_cons ok_sDrawHeadNew (env_cons ok_iHeadNew (env_cons ok_sHeadNew (env_cons ok_iTake (env_cons ok_iReplyOf (env_cons ok_iHeadOk (env_cons ok_iBusy (env_nil PG))))))))) k_lFnHeadNew (by kernel_rfl)
theorem e_lFnHeadNew (n : Nat) (a0 : List (Int)) : f_lFnHeadNew n a0 =
  Option.bind (g_lbig a0) fun r0 =>
  bif r0.1 then
   some (true, ())
  else Option.bind (g_sDrawHeadNew a0) fun r1 =>
  Option.bind (g_iHeadNew (r1.1.1, r1.1.2)) fun r2 =>
  Option.bind (g_sHeadNew (r1.1.1, r1.1.2)) fun r3 =>
  bif !(r2.1.2.2.2.2.2.2.2.2.2.2.2.2.2.2.2 == r3.1.2.2.2.2.2.2.2.2.2.2.2.2.2.2.2) then
   some (false, ())
  else bif !r2.1.2.2.2.2.2.2.2.2.2.2.2.2.2.2.2 then
   some (decide (r2.1.1 = (0 : Int)), ())
  else Option.bind (g_iTake ((r2.1.1, r2.1.2.1, r2.1.2.2.1, r2.1.2.2.2.1, r2.1.2.2.2.2.1, r2.1.2.2.2.2.2.1, r2.1.2.2.2.2.2.2.1, r2.1.2.2.2.2.2.2.2.1, r2.1.2.2.2.2.2.2.2.2.1, r2.1.2.2.2.2.2.2.2.2.2.1, r2.1.2.2.2.2.2.2.2.2.2.2.1, r2.1.2.2.2.2.2.2.2.2.2.2.2.1, r2.1.2.2.2.2.2.2.2.2.2.2.2.2.1, r2.1.2.2.2.2.2.2.2.2.2.2.2.2.2.1, r2.1.2.2.2.2.2.2.2.2.2.2.2.2.2.2.1), ((5 : Int), (9 : Int), (0 : Int), (0 : Int)))) fun r4 =>
  Option.bind (g_iReplyOf ((r4.1.1, r4.1.2.1, r4.1.2.2.1, r4.1.2.2.2.1, r4.1.2.2.2.2.1, r4.1.2.2.2.2.2.1, r4.1.2.2.2.2.2.2.1, r4.1.2.2.2.2.2.2.2.1, r4.1.2.2.2.2.2.2.2.2.1, r4.1.2.2.2.2.2.2.2.2.2.1, r4.1.2.2.2.2.2.2.2.2.2.2.1, r4.1.2.2.2.2.2.2.2.2.2.2.2.1, r4.1.2.2.2.2.2.2.2.2.2.2.2.2.1, r4.1.2.2.2.2.2.2.2.2.2.2.2.2.2.1, r4.1.2.2.2.2.2.2.2.2.2.2.2.2.2.2.1), (5 : Int))) fun r5 =>
  Option.bind (g_iReplyOf ((r2.1.1, r2.1.2.1, r2.1.2.2.1, r2.1.2.2.2.1, r2.1.2.2.2.2.1, r2.1.2.2.2.2.2.1, r2.1.2.2.2.2.2.2.1, r2.1.2.2.2.2.2.2.2.1, r2.1.2.2.2.2.2.2.2.2.1, r2.1.2.2.2.2.2.2.2.2.2.1, r2.1.2.2.2.2.2.2.2.2.2.2.1, r2.1.2.2.2.2.2.2.2.2.2.2.2.1, r2.1.2.2.2.2.2.2.2.2.2.2.2.2.1, r2.1.2.2.2.2.2.2.2.2.2.2.2.2.2.1, r2.1.2.2.2.2.2.2.2.2.2.2.2.2.2.2.1), (5 : Int))) fun r6 =>
  Option.bind (Option.bind (g_iHeadOk (r2.1.1, r2.1.2.1, r2.1.2.2.1, r2.1.2.2.2.1, r2.1.2.2.2.2.1, r2.1.2.2.2.2.2.1, r2.1.2.2.2.2.2.2.1, r2.1.2.2.2.2.2.2.2.1, r2.1.2.2.2.2.2.2.2.2.1, r2.1.2.2.2.2.2.2.2.2.2.1, r2.1.2.2.2.2.2.2.2.2.2.2.1, r2.1.2.2.2.2.2.2.2.2.2.2.2.1, r2.1.2.2.2.2.2.2.2.2.2.2.2.2.1, r2.1.2.2.2.2.2.2.2.2.2.2.2.2.2.1, r2.1.2.2.2.2.2.2.2.2.2.2.2.2.2.2.1)) fun r7 =>
   bif r7.1 then
    Option.bind (g_iBusy (r2.1.1, r2.1.2.1, r2.1.2.2.1, r2.1.2.2.2.1, r2.1.2.2.2.2.1, r2.1.2.2.2.2.2.1, r2.1.2.2.2.2.2.2.1, r2.1.2.2.2.2.2.2.2.1, r2.1.2.2.2.2.2.2.2.2.1, r2.1.2.2.2.2.2.2.2.2.2.1, r2.1.2.2.2.2.2.2.2.2.2.2.1, r2.1.2.2.2.2.2.2.2.2.2.2.2.1, r2.1.2.2.2.2.2.2.2.2.2.2.2.2.1, r2.1.2.2.2.2.2.2.2.2.2.2.2.2.2.1, r2.1.2.2.2.2.2.2.2.2.2.2.2.2.2.2.1)) fun r8 =>
    bif !r8.1 then
     bif decide (r4.1.2.2.2.2.2.2.2.2.2.2.2.2.2.2.2 = (1 : Int)) then
      bif r5.1.2 then
       bif decide (r5.1.1 = (3 : Int)) then
        some !r6.1.2
       else some false
      else some false
     else some false
    else some false
   else some false : Option (Bool)) fun x9 =>
  some (x9, ()) := by kernel_rfl
/- spec.l05Has -/
def c_sl05Has : TC :=
 (.seq (.rg [o1 3 (.a (.t 1)),
   o1 4 (.lit [.b] [.bool false])])
 (.seq (.join [] 262128 (some [⟨4, [.b], false⟩]) (.seq (.rg [o1 5 (.lit [.i .i64] [.int .i64 (0)])])
 (.block 0 (.loop [⟨5, [.i .i64], false⟩] 262128
  (.seq (.seq (.rg [o1 6 (.copy 5),
    o1 7 (.copy 0),
    o1 8 (.len 7),
    o1 9 (.data (.bin .lss) [.t 6, .t 8])])
  (.cond (.t 9)
   .skip
   (.exit 0)))
  (.seq (.block 1 (.seq (.rg [o1 12 (.copy 0),
    o1 13 (.copy 5),
    o1 14 (.index 12 (.t 13)),
    o1 15 (.load 12 [(0, 2)] 0 (.t 14) 2 false),
    o1 16 (.load 3 [] 0 .nil 2 false),
    o1 17 (.eqA [.i, .i] (.t 15) (.t 16) false)])
  (.cond (.t 17)
   (.seq (.rg [o1 4 (.lit [.b] [.bool true])])
   .ret)
   .skip)))
  (.rg [o1 10 (.copy 5),
    o1 11 (.data (.bin .add) [.t 10, .c (.int .i64 (1))]),
    o1 5 (.copy 11)])))))))
 (.seq (.rg [o1 4 (.lit [.b] [.bool false])])
 .ret)))
def s_sl05Has : Sig := ⟨[.rd false [.sl (.own none) [.d, .d]], .rd true [.d, .d]], (.one false [.d])⟩
noncomputable def E_sl05Has : TEnv := envOf []
noncomputable def f_sl05Has (n : Nat) : (List (Int × Int)) × (Int × Int) → Option ((Bool) × Unit) := runFn n E_sl05Has c_sl05Has [[.sl [.i .i64, .i .i64]], [.i .i64, .i .i64]] [.b] [] [4] .no
noncomputable def g_sl05Has := f_sl05Has BIG
noncomputable def p_sl05Has : TSp := ⟨s_sl05Has, [[.sl [.i .i64, .i .i64]], [.i .i64, .i .i64]], [.b], [], Ou.j .no, g_sl05Has⟩
theorem k_sl05Has : chkW PG E_sl05Has 112 s_sl05Has (c_sl05Has.ht 18) .no = some (c_sl05Has.wc E_sl05Has, [4]) := by kernel_rfl
theorem ok_sl05Has : p_sl05Has.Ok PG 112 := mkOk (env_nil PG) k_sl05Has (by kernel_rfl)
theorem e_sl05Has (n : Nat) (a0 : List (Int × Int)) (a1 : Int × Int) : f_sl05Has n (a0, a1) =
  Option.bind (loopT n (X := Int) (B := (Unit) ⊕ (Bool)) (fun self1 x0 =>
    bif decide (x0 < (a0.length : Int)) then
     bnd a0.length x0 fun n2 =>
     Option.bind a0[n2]? fun y3 =>
     bif (decide (y3.1 = a1.1) && (decide (y3.2 = a1.2) && true)) then
      some (Sum.inr true)
     else self1 (IntKind.wrap .i64 (x0 + (1 : Int)))
    else some (Sum.inl ())) (0 : Int) : Option ((Unit) ⊕ (Bool))) fun y => match y with
  | .inl x4 =>
   some (false, ())
  | .inr x4 =>
   some (x4, ()) := by kernel_rfl
end Go.Fw
