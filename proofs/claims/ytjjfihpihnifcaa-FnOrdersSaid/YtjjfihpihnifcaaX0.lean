/- The given functions, as what they compute; each is shown to be what the code does. No conditions. -/
import Derived.Test.YtjjfihpihnifcaaG5
import Derived.Test.YtjjfihpihnifcaaProg
set_option linter.unusedVariables false
set_option linter.unusedSimpArgs false
namespace Go.Fw
noncomputable abbrev PG := Go.Proofs.Try.prog
def o2 (d : Nat) (e : ED) (j : Nat) (b : Bool) : TO := ⟨false, [], [], .det 1 e, [d], some d, some (j, b)⟩
def o3 (d : Nat) (K : FuncId) (gets : List OY) : TO := ⟨false, [], [], .call 1 K gets .no, [d], some d, none⟩
def o4 (n : Nat) (ds : List Nat) (e : ED) : TO := ⟨false, [], [], .det n e, ds, none, none⟩
end Go.Fw
namespace Go.Fw
/- laws.big -/
def c_lbig : TC :=
 (.seq (.rg [o1 2 (.lit [.b] [.bool false])])
 (.seq (.rg [o1 3 (.copy 0),
   o1 4 (.len 3),
   o1 5 (.data (.bin .gtr) [.t 4, .c (.int .i64 (1048576))]),
   o1 2 (.copy 5)])
 .ret))
def s_lbig : Sig := ⟨[.rd false [.sl (.own none) [.d]]], (.one false [.d])⟩
noncomputable def E_lbig : TEnv := envOf []
noncomputable def f_lbig (n : Nat) : List (Int) → Option ((Bool) × Unit) := runFn n E_lbig c_lbig [[.sl [.i .u8]]] [.b] [] [2] .no
noncomputable def g_lbig := f_lbig BIG
noncomputable def p_lbig : TSp := ⟨s_lbig, [[.sl [.i .u8]]], [.b], [], Ou.j .no, g_lbig⟩
theorem k_lbig : chkW PG E_lbig 7 s_lbig (c_lbig.ht 6) .no = some (c_lbig.wc E_lbig, [2]) := by kernel_rfl
theorem ok_lbig : p_lbig.Ok PG 7 := mkOk (env_nil PG) k_lbig (by kernel_rfl)
theorem e_lbig (n : Nat) (a0 : List (Int)) : f_lbig n a0 =
  some (decide ((1048576 : Int) < (a0.length : Int)), ()) := by kernel_rfl
/- spec.l01New -/
def c_sl01New : TC :=
 (.seq (.rg [o1 2 (.nl)])
 (.seq (.rg [o1 5 (.copy 0),
   o1 6 (.len 5),
   o1 7 (.data (.bin .add) [.c (.int .i64 (13501)), .t 6]),
   o1 3 (.copy 7)])
 (.seq (.join [⟨3, [.i .i64], false⟩] 268435224 none (.seq (.rg [o1 4 (.lit [.i .i64] [.int .i64 (0)])])
 (.block 0 (.loop [⟨3, [.i .i64], false⟩, ⟨4, [.i .i64], false⟩] 268435224
  (.seq (.seq (.join [⟨15, [.b], false⟩] 65280 none (.rg [o1 8 (.copy 4),
    o1 9 (.copy 0),
    o1 10 (.len 9),
    o1 11 (.data (.bin .lss) [.t 8, .t 10]),
    o1 12 (.copy 11),
    o2 13 (.copy 4) 4 true,
    o2 14 (.data (.bin .lss) [.t 13, .c (.int .i64 (4000))]) 4 true,
    ⟨false, [], [], .pick 12 (.t 14) (.c (.bool false)), [15], (some 15), none⟩]))
  (.cond (.t 15)
   .skip
   (.exit 0)))
  (.seq (.block 1 (.rg [o1 18 (.copy 3),
    o1 19 (.data (.bin .mul) [.t 18, .c (.int .i64 (131))]),
    o1 20 (.copy 0),
    o1 21 (.copy 4),
    o1 22 (.index 20 (.t 21)),
    o1 23 (.load 20 [(0, 1)] 0 (.t 22) 1 false),
    o1 24 (.data (.conv .i64) [.t 23]),
    o1 25 (.data (.bin .add) [.t 19, .t 24]),
    o1 26 (.data (.bin .add) [.t 25, .c (.int .i64 (7))]),
    o1 27 (.data (.bin .and) [.t 26, .c (.int .i64 (1073741823))]),
    o1 3 (.copy 27)]))
  (.rg [o1 16 (.copy 4),
    o1 17 (.data (.bin .add) [.t 16, .c (.int .i64 (1))]),
    o1 4 (.copy 17)])))))))
 (.seq (.rg [o1 28 (.copy 0),
   o1 29 (.copy 3),
   o1 30 (.build [.sl [.i .u8], .i .i64, .i .i64] [(0, .t 28), (2, .t 29)]),
   o1 31 (.a (.t 30)),
   ⟨true, [], [], .det 2 (.copy 31), [2, 31], (some 2), none⟩])
 .ret))))
def s_sl01New : Sig := ⟨[.rd false [.sl (.own none) [.d]]], (.bx [.sl (.ro [0]) [.d], .d, .d])⟩
noncomputable def E_sl01New : TEnv := envOf []
noncomputable def f_sl01New (n : Nat) : List (Int) → Option ((List (Int) × Int × Int) × Unit) := runFn n E_sl01New c_sl01New [[.sl [.i .u8]]] [.sl [.i .u8], .i .i64, .i .i64] [] [2] .no
noncomputable def g_sl01New := f_sl01New BIG
noncomputable def p_sl01New : TSp := ⟨s_sl01New, [[.sl [.i .u8]]], [.sl [.i .u8], .i .i64, .i .i64], [], Ou.j .no, g_sl01New⟩
theorem k_sl01New : chkW PG E_sl01New 39 s_sl01New (c_sl01New.ht 32) .no = some (c_sl01New.wc E_sl01New, [2]) := by kernel_rfl
theorem ok_sl01New : p_sl01New.Ok PG 39 := mkOk (env_nil PG) k_sl01New (by kernel_rfl)
theorem e_sl01New (n : Nat) (a0 : List (Int)) : f_sl01New n a0 =
  Option.bind (loopT n (X := Int × Int) (B := Int) (fun self1 x0 =>
    Option.bind (bif decide (x0.2 < (a0.length : Int)) then
      some (decide (x0.2 < (4000 : Int)))
     else some false : Option (Bool)) fun x2 =>
    bif x2 then
     bnd a0.length x0.2 fun n3 =>
     Option.bind a0[n3]? fun y4 =>
     self1 (bits .and .i64 (IntKind.wrap .i64 ((IntKind.wrap .i64 ((IntKind.wrap .i64 (x0.1 * (131 : Int))) + (IntKind.wrap .i64 (y4)))) + (7 : Int))) (1073741823 : Int), IntKind.wrap .i64 (x0.2 + (1 : Int)))
    else some x0.1) (IntKind.wrap .i64 ((13501 : Int) + (a0.length : Int)), (0 : Int)) : Option (Int)) fun x5 =>
  some ((a0, (0 : Int), x5), ()) := by kernel_rfl
/- spec.l01Byte -/
def c_sl01Byte : TC :=
 (.seq (.rg [o1 2 (.lit [.i .i64] [.int .i64 (0)])])
 (.seq (.rg [o1 4 (.p0),
   o1 5 (.p0),
   o1 6 (.same 5),
   o1 7 (.idx (.t 6)),
   o1 8 (.load 0 [] 2 (.t 7) 1 false),
   o1 9 (.data (.bin .mul) [.t 8, .c (.int .i64 (6364136223846793005))]),
   o1 10 (.data (.bin .add) [.t 9, .c (.int .i64 (1442695040888963407))]),
   o1 11 (.same 4),
   o1 12 (.idx (.t 11)),
   o4 1 [0] (.store 0 [] 2 (.t 12) (.t 10))])
 (.seq (.rg [o1 13 (.p0),
   o1 18 (.p0),
   o1 14 (.same 13),
   o1 15 (.idx (.t 14)),
   o1 16 (.load 0 [] 2 (.t 15) 1 false),
   o1 17 (.data (.bin .shr) [.t 16, .c (.int .u64 (33))]),
   o1 19 (.same 18),
   o1 20 (.idx (.t 19)),
   o1 21 (.load 0 [] 2 (.t 20) 1 false),
   o1 22 (.data (.bin .shr) [.t 21, .c (.int .u64 (45))]),
   o1 23 (.data (.bin .xor) [.t 17, .t 22]),
   o1 24 (.data (.bin .and) [.t 23, .c (.int .i64 (255))]),
   o1 3 (.copy 24)])
 (.seq (.join [⟨3, [.i .i64], false⟩, ⟨0, [.sl [.i .u8], .i .i64, .i .i64], false⟩] 144115188042301449 none (.seq (.rg [o1 25 (.p0),
   o1 29 (.p0),
   o1 26 (.same 25),
   o1 27 (.idx (.t 26)),
   o1 28 (.load 0 [] 1 (.t 27) 1 false),
   o1 30 (.same 29),
   o1 31 (.idx (.t 30)),
   o1 32 (.load 0 [] 0 (.t 31) 1 false),
   o1 33 (.len 32),
   o1 34 (.data (.bin .lss) [.t 28, .t 33])])
 (.cond (.t 34)
  (.seq (.rg [o1 35 (.copy 3),
    o1 36 (.p0),
    o1 40 (.p0),
    o1 37 (.same 36),
    o1 38 (.idx (.t 37)),
    o1 39 (.load 0 [] 0 (.t 38) 1 false),
    o1 41 (.same 40),
    o1 42 (.idx (.t 41)),
    o1 43 (.load 0 [] 1 (.t 42) 1 false),
    o1 44 (.index 39 (.t 43)),
    o1 45 (.load 39 [(0, 1)] 0 (.t 44) 1 false),
    o1 46 (.data (.conv .i64) [.t 45]),
    o1 47 (.data (.bin .add) [.t 35, .t 46]),
    o1 48 (.data (.bin .and) [.t 47, .c (.int .i64 (255))]),
    o1 3 (.copy 48)])
  (.rg [o1 49 (.p0),
    o1 50 (.p0),
    o1 51 (.same 50),
    o1 52 (.idx (.t 51)),
    o1 53 (.load 0 [] 1 (.t 52) 1 false),
    o1 54 (.data (.bin .add) [.t 53, .c (.int .i64 (1))]),
    o1 55 (.same 49),
    o1 56 (.idx (.t 55)),
    o4 1 [0] (.store 0 [] 1 (.t 56) (.t 54))]))
  .skip)))
 (.seq (.rg [o1 57 (.copy 3),
   o1 2 (.copy 57)])
 .ret)))))
def s_sl01Byte : Sig := ⟨[.mp [.sl (.ro []) [.d], .d, .d]], (.one false [.d])⟩
noncomputable def E_sl01Byte : TEnv := envOf []
noncomputable def f_sl01Byte (n : Nat) : (List (Int) × Int × Int) → Option ((Int) × List (Int) × Int × Int) := runFn n E_sl01Byte c_sl01Byte [[.sl [.i .u8], .i .i64, .i .i64]] [.i .i64] [.sl [.i .u8], .i .i64, .i .i64] [2] (.mp 0)
noncomputable def g_sl01Byte := f_sl01Byte BIG
noncomputable def p_sl01Byte : TSp := ⟨s_sl01Byte, [[.sl [.i .u8], .i .i64, .i .i64]], [.i .i64], [.sl [.i .u8], .i .i64, .i .i64], Ou.j (.mp 0), g_sl01Byte⟩
theorem k_sl01Byte : chkW PG E_sl01Byte 100 s_sl01Byte (c_sl01Byte.ht 58) (.mp 0) = some (c_sl01Byte.wc E_sl01Byte, [2]) := by kernel_rfl
theorem ok_sl01Byte : p_sl01Byte.Ok PG 100 := mkOk (env_nil PG) k_sl01Byte (by kernel_rfl)
theorem e_sl01Byte (n : Nat) (a0 : List (Int) × Int × Int) : f_sl01Byte n a0 =
  bif decide ((33 : Int) < 0) then
   none
  else bif decide ((45 : Int) < 0) then
   none
  else Option.bind (bif decide (a0.2.1 < (a0.1.length : Int)) then
    bnd a0.1.length a0.2.1 fun n0 =>
    Option.bind a0.1[n0]? fun y1 =>
    some (bits .and .i64 (IntKind.wrap .i64 ((bits .and .i64 (bits .xor .i64 (Int.fdiv (IntKind.wrap .i64 ((IntKind.wrap .i64 (a0.2.2 * (6364136223846793005 : Int))) + (1442695040888963407 : Int))) (2 ^ (Nat.min (Int.toNat (33 : Int)) (IntKind.bits .i64)))) (Int.fdiv (IntKind.wrap .i64 ((IntKind.wrap .i64 (a0.2.2 * (6364136223846793005 : Int))) + (1442695040888963407 : Int))) (2 ^ (Nat.min (Int.toNat (45 : Int)) (IntKind.bits .i64))))) (255 : Int)) + (IntKind.wrap .i64 (y1)))) (255 : Int), (a0.1, IntKind.wrap .i64 (a0.2.1 + (1 : Int)), IntKind.wrap .i64 ((IntKind.wrap .i64 (a0.2.2 * (6364136223846793005 : Int))) + (1442695040888963407 : Int))))
   else some (bits .and .i64 (bits .xor .i64 (Int.fdiv (IntKind.wrap .i64 ((IntKind.wrap .i64 (a0.2.2 * (6364136223846793005 : Int))) + (1442695040888963407 : Int))) (2 ^ (Nat.min (Int.toNat (33 : Int)) (IntKind.bits .i64)))) (Int.fdiv (IntKind.wrap .i64 ((IntKind.wrap .i64 (a0.2.2 * (6364136223846793005 : Int))) + (1442695040888963407 : Int))) (2 ^ (Nat.min (Int.toNat (45 : Int)) (IntKind.bits .i64))))) (255 : Int), (a0.1, a0.2.1, IntKind.wrap .i64 ((IntKind.wrap .i64 (a0.2.2 * (6364136223846793005 : Int))) + (1442695040888963407 : Int)))) : Option (Int × (List (Int) × Int × Int))) fun x2 =>
  some (x2.1, x2.2) := by kernel_rfl
/- spec.l01Below -/
def c_sl01Below : TC :=
 (.seq (.rg [o1 4 (.lit [.i .i64] [.int .i64 (0)])])
 (.seq (.seq (.rg [o1 9 (.copy 1),
   o1 10 (.data (.bin .leq) [.t 9, .c (.int .i64 (0))])])
 (.cond (.t 10)
  (.seq (.rg [o1 4 (.lit [.i .i64] [.int .i64 (0)])])
  .ret)
  .skip))
 (.seq (.seq (.rg [o1 11 (.copy 1),
   o1 12 (.data (.bin .leq) [.t 11, .c (.int .i64 (256))])])
 (.cond (.t 12)
  (.seq (.rg [o1 13 (.p0),
    ⟨false, [], [], .call 2 100 [.t 0] (.mp 0), [14, 0], (some 14), none⟩,
    o1 15 (.copy 1),
    o1 16 (.data (.bin .rem) [.t 14, .t 15]),
    o1 4 (.copy 16)])
  .ret)
  .skip))
 (.seq (.rg [o1 17 (.p0),
   ⟨false, [], [], .call 2 100 [.t 0] (.mp 0), [18, 0], (some 18), none⟩,
   o1 5 (.copy 18)])
 (.seq (.rg [o1 19 (.p0),
   ⟨false, [], [], .call 2 100 [.t 0] (.mp 0), [20, 0], (some 20), none⟩,
   o1 6 (.copy 20)])
 (.seq (.rg [o1 21 (.p0),
   ⟨false, [], [], .call 2 100 [.t 0] (.mp 0), [22, 0], (some 22), none⟩,
   o1 7 (.copy 22)])
 (.seq (.rg [o1 23 (.p0),
   ⟨false, [], [], .call 2 100 [.t 0] (.mp 0), [24, 0], (some 24), none⟩,
   o1 8 (.copy 24)])
 (.seq (.rg [o1 25 (.copy 5),
   o1 26 (.data (.bin .mul) [.t 25, .c (.int .i64 (16777216))]),
   o1 27 (.copy 6),
   o1 28 (.data (.bin .mul) [.t 27, .c (.int .i64 (65536))]),
   o1 29 (.data (.bin .add) [.t 26, .t 28]),
   o1 30 (.copy 7),
   o1 31 (.data (.bin .mul) [.t 30, .c (.int .i64 (256))]),
   o1 32 (.data (.bin .add) [.t 29, .t 31]),
   o1 33 (.copy 8),
   o1 34 (.data (.bin .add) [.t 32, .t 33]),
   o1 35 (.copy 1),
   o1 36 (.data (.bin .rem) [.t 34, .t 35]),
   o1 4 (.copy 36)])
 .ret))))))))
def s_sl01Below : Sig := ⟨[.mp [.sl (.ro []) [.d], .d, .d], .rd false [.d]], (.one false [.d])⟩
noncomputable def E_sl01Below : TEnv := envOf [(100, p_sl01Byte)]
noncomputable def f_sl01Below (n : Nat) : (List (Int) × Int × Int) × Int → Option ((Int) × List (Int) × Int × Int) := runFn n E_sl01Below c_sl01Below [[.sl [.i .u8], .i .i64, .i .i64], [.i .i64]] [.i .i64] [.sl [.i .u8], .i .i64, .i .i64] [4] (.mp 0)
noncomputable def g_sl01Below := f_sl01Below BIG
noncomputable def p_sl01Below : TSp := ⟨s_sl01Below, [[.sl [.i .u8], .i .i64, .i .i64], [.i .i64]], [.i .i64], [.sl [.i .u8], .i .i64, .i .i64], Ou.j (.mp 0), g_sl01Below⟩
theorem k_sl01Below : chkW PG E_sl01Below 41 s_sl01Below (c_sl01Below.ht 37) (.mp 0) = some (c_sl01Below.wc E_sl01Below, [4]) := by kernel_rfl
theorem ok_sl01Below : p_sl01Below.Ok PG 41 := mkOk (env_cons ok_sl01Byte (env_nil PG)) k_sl01Below (by kernel_rfl)
theorem e_sl01Below (n : Nat) (a0 : List (Int) × Int × Int) (a1 : Int) : f_sl01Below n (a0, a1) =
  bif decide (a1 ≤ (0 : Int)) then
   some ((0 : Int), a0)
  else bif decide (a1 ≤ (256 : Int)) then
   Option.bind (g_sl01Byte a0) fun r0 =>
   bif decide (a1 = 0) then
    none
   else some (Int.tmod r0.1 a1, r0.2)
  else Option.bind (g_sl01Byte a0) fun r1 =>
  Option.bind (g_sl01Byte r1.2) fun r2 =>
  Option.bind (g_sl01Byte r2.2) fun r3 =>
  Option.bind (g_sl01Byte r3.2) fun r4 =>
  bif decide (a1 = 0) then
   none
  else some (Int.tmod (IntKind.wrap .i64 ((IntKind.wrap .i64 ((IntKind.wrap .i64 ((IntKind.wrap .i64 (r1.1 * (16777216 : Int))) + (IntKind.wrap .i64 (r2.1 * (65536 : Int))))) + (IntKind.wrap .i64 (r3.1 * (256 : Int))))) + r4.1)) a1, r4.2) := by kernel_rfl
/- spec.l09N -/
def c_sl09N : TC :=
 (.seq (.rg [o1 2 (.lit [.i .i64] [.int .i64 (0)])])
 (.seq (.rg [o1 3 (.p0),
   ⟨false, [], [], .call 2 41 [.t 0, .c [.i .i64] [.int .i64 (11)]] (.mp 0), [4, 0], (some 4), none⟩,
   o1 5 (.data (.bin .add) [.c (.int .i64 (2)), .t 4]),
   o1 2 (.copy 5)])
 .ret))
def s_sl09N : Sig := ⟨[.mp [.sl (.ro []) [.d], .d, .d]], (.one false [.d])⟩
noncomputable def E_sl09N : TEnv := envOf [(41, p_sl01Below)]
noncomputable def f_sl09N (n : Nat) : (List (Int) × Int × Int) → Option ((Int) × List (Int) × Int × Int) := runFn n E_sl09N c_sl09N [[.sl [.i .u8], .i .i64, .i .i64]] [.i .i64] [.sl [.i .u8], .i .i64, .i .i64] [2] (.mp 0)
noncomputable def g_sl09N := f_sl09N BIG
noncomputable def p_sl09N : TSp := ⟨s_sl09N, [[.sl [.i .u8], .i .i64, .i .i64]], [.i .i64], [.sl [.i .u8], .i .i64, .i .i64], Ou.j (.mp 0), g_sl09N⟩
theorem k_sl09N : chkW PG E_sl09N 75 s_sl09N (c_sl09N.ht 6) (.mp 0) = some (c_sl09N.wc E_sl09N, [2]) := by kernel_rfl
theorem ok_sl09N : p_sl09N.Ok PG 75 := mkOk (env_cons ok_sl01Below (env_nil PG)) k_sl09N (by kernel_rfl)
theorem e_sl09N (n : Nat) (a0 : List (Int) × Int × Int) : f_sl09N n a0 =
  Option.bind (g_sl01Below (a0, (11 : Int))) fun r0 =>
  some (IntKind.wrap .i64 ((2 : Int) + r0.1), r0.2) := by kernel_rfl
/- spec.l01PickInt -/
def c_sl01PickInt : TC :=
 (.seq (.rg [o1 4 (.lit [.i .i64] [.int .i64 (0)])])
 (.seq (.rg [o1 5 (.copy 1),
   o1 6 (.p0),
   o1 7 (.copy 1),
   o1 8 (.len 7),
   ⟨false, [], [], .call 2 41 [.t 0, .t 8] (.mp 0), [9, 0], (some 9), none⟩,
   o1 10 (.index 5 (.t 9)),
   o1 11 (.load 5 [(0, 1)] 0 (.t 10) 1 false),
   o1 4 (.copy 11)])
 .ret))
def s_sl01PickInt : Sig := ⟨[.mp [.sl (.ro []) [.d], .d, .d], .rd false [.sl (.own none) [.d]]], (.one false [.d])⟩
noncomputable def E_sl01PickInt : TEnv := envOf [(41, p_sl01Below)]
noncomputable def f_sl01PickInt (n : Nat) : (List (Int) × Int × Int) × List (Int) → Option ((Int) × List (Int) × Int × Int) := runFn n E_sl01PickInt c_sl01PickInt [[.sl [.i .u8], .i .i64, .i .i64], [.sl [.i .i64]]] [.i .i64] [.sl [.i .u8], .i .i64, .i .i64] [4] (.mp 0)
noncomputable def g_sl01PickInt := f_sl01PickInt BIG
noncomputable def p_sl01PickInt : TSp := ⟨s_sl01PickInt, [[.sl [.i .u8], .i .i64, .i .i64], [.sl [.i .i64]]], [.i .i64], [.sl [.i .u8], .i .i64, .i .i64], Ou.j (.mp 0), g_sl01PickInt⟩
theorem k_sl01PickInt : chkW PG E_sl01PickInt 84 s_sl01PickInt (c_sl01PickInt.ht 12) (.mp 0) = some (c_sl01PickInt.wc E_sl01PickInt, [4]) := by kernel_rfl
theorem ok_sl01PickInt : p_sl01PickInt.Ok PG 84 := mkOk (env_cons ok_sl01Below (env_nil PG)) k_sl01PickInt (by kernel_rfl)
theorem e_sl01PickInt (n : Nat) (a0 : List (Int) × Int × Int) (a1 : List (Int)) : f_sl01PickInt n (a0, a1) =
  Option.bind (g_sl01Below (a0, (a1.length : Int))) fun r0 =>
  bnd a1.length r0.1 fun n1 =>
  Option.bind a1[n1]? fun y2 =>
  some (y2, r0.2) := by kernel_rfl
/- spec.l05Edge -/
def c_sl05Edge : TC :=
 (.seq (.rg [⟨false, [], [], .det 2 (.a (.c [.i .i64, .i .i64] [.int .i64 (0), .int .i64 (0)])), [4, 1000000001], (some 4), none⟩])
 (.seq (.rg [o1 7 (.p0),
   o1 8 (.copy 1),
   ⟨false, [], [], .call 2 41 [.t 0, .t 8] (.mp 0), [9, 0], (some 9), none⟩,
   o1 5 (.copy 9)])
 (.seq (.rg [o1 10 (.p0),
   o1 11 (.copy 1),
   ⟨false, [], [], .call 2 41 [.t 0, .t 11] (.mp 0), [12, 0], (some 12), none⟩,
   o1 6 (.copy 12)])
 (.seq (.join [⟨6, [.i .i64], false⟩] 1040448 none (.seq (.rg [o1 13 (.copy 5),
   o1 14 (.copy 6),
   o1 15 (.data (.bin .eql) [.t 13, .t 14])])
 (.cond (.t 15)
  (.rg [o1 16 (.copy 5),
    o1 17 (.data (.bin .add) [.t 16, .c (.int .i64 (1))]),
    o1 18 (.copy 1),
    o1 19 (.data (.bin .rem) [.t 17, .t 18]),
    o1 6 (.copy 19)])
  .skip)))
 (.seq (.seq (.rg [o1 20 (.copy 5),
   o1 21 (.copy 6),
   o1 22 (.data (.bin .gtr) [.t 20, .t 21])])
 (.cond (.t 22)
  (.seq (.rg [o1 23 (.copy 6),
    o1 24 (.copy 5),
    o1 25 (.build [.i .i64, .i .i64] [(0, .t 23), (1, .t 24)]),
    o4 1 [4] (.store 4 [] 0 .nil (.t 25))])
  .ret)
  .skip))
 (.seq (.rg [o1 26 (.copy 5),
   o1 27 (.copy 6),
   o1 28 (.build [.i .i64, .i .i64] [(0, .t 26), (1, .t 27)]),
   o4 1 [4] (.store 4 [] 0 .nil (.t 28))])
 .ret))))))
def s_sl05Edge : Sig := ⟨[.mp [.sl (.ro []) [.d], .d, .d], .rd false [.d]], (.one true [.d, .d])⟩
noncomputable def E_sl05Edge : TEnv := envOf [(41, p_sl01Below)]
noncomputable def f_sl05Edge (n : Nat) : (List (Int) × Int × Int) × Int → Option ((Int × Int) × List (Int) × Int × Int) := runFn n E_sl05Edge c_sl05Edge [[.sl [.i .u8], .i .i64, .i .i64], [.i .i64]] [.i .i64, .i .i64] [.sl [.i .u8], .i .i64, .i .i64] [4] (.mp 0)
noncomputable def g_sl05Edge := f_sl05Edge BIG
noncomputable def p_sl05Edge : TSp := ⟨s_sl05Edge, [[.sl [.i .u8], .i .i64, .i .i64], [.i .i64]], [.i .i64, .i .i64], [.sl [.i .u8], .i .i64, .i .i64], Ou.j (.mp 0), g_sl05Edge⟩
theorem k_sl05Edge : chkW PG E_sl05Edge 146 s_sl05Edge (c_sl05Edge.ht 29) (.mp 0) = some (c_sl05Edge.wc E_sl05Edge, [4]) := by kernel_rfl
theorem ok_sl05Edge : p_sl05Edge.Ok PG 146 := mkOk (env_cons ok_sl01Below (env_nil PG)) k_sl05Edge (by kernel_rfl)
theorem e_sl05Edge (n : Nat) (a0 : List (Int) × Int × Int) (a1 : Int) : f_sl05Edge n (a0, a1) =
  Option.bind (g_sl01Below (a0, a1)) fun r0 =>
  Option.bind (g_sl01Below (r0.2, a1)) fun r1 =>
  Option.bind (bif decide (r0.1 = r1.1) then
    bif decide (a1 = 0) then
     none
    else some (Int.tmod (IntKind.wrap .i64 (r0.1 + (1 : Int))) a1)
   else some r1.1 : Option (Int)) fun x2 =>
  bif decide (x2 < r0.1) then
   some ((x2, r0.1), r1.2)
  else some ((r0.1, x2), r1.2) := by kernel_rfl
/- spec.l05Has -/
def c_sl05Has : TC :=
 (.seq (.rg [o1 3 (.a (.t 1)),
   o1 4 (.lit [.b] [.bool false])])
 (.seq (.join [] 262128 (some [⟨4, [.b], false⟩]) (.seq (.rg [o1 5 (.lit [.i .i64] [.int .i64 (0)])])
 (.block 0 (.loop [⟨5, [.i .i64], false⟩] 262128
  (.seq (.seq (.rg [o1 6 (.copy 5),
    o1 7 (.copy 0),
    o1 8 (.len 7),
    o1 9 (.data (.bin .lss) [.t 6, .t 8])])
  (.cond (.t 9)
   .skip
   (.exit 0)))
  (.seq (.block 1 (.seq (.rg [o1 12 (.copy 0),
    o1 13 (.copy 5),
    o1 14 (.index 12 (.t 13)),
    o1 15 (.load 12 [(0, 2)] 0 (.t 14) 2 false),
    o1 16 (.load 3 [] 0 .nil 2 false),
    o1 17 (.eqA [.i, .i] (.t 15) (.t 16) false)])
  (.cond (.t 17)
   (.seq (.rg [o1 4 (.lit [.b] [.bool true])])
   .ret)
   .skip)))
  (.rg [o1 10 (.copy 5),
    o1 11 (.data (.bin .add) [.t 10, .c (.int .i64 (1))]),
    o1 5 (.copy 11)])))))))
 (.seq (.rg [o1 4 (.lit [.b] [.bool false])])
 .ret)))
def s_sl05Has : Sig := ⟨[.rd false [.sl (.own none) [.d, .d]], .rd true [.d, .d]], (.one false [.d])⟩
noncomputable def E_sl05Has : TEnv := envOf []
noncomputable def f_sl05Has (n : Nat) : (List (Int × Int)) × (Int × Int) → Option ((Bool) × Unit) := runFn n E_sl05Has c_sl05Has [[.sl [.i .i64, .i .i64]], [.i .i64, .i .i64]] [.b] [] [4] .no
noncomputable def g_sl05Has := f_sl05Has BIG
noncomputable def p_sl05Has : TSp := ⟨s_sl05Has, [[.sl [.i .i64, .i .i64]], [.i .i64, .i .i64]], [.b], [], Ou.j .no, g_sl05Has⟩
theorem k_sl05Has : chkW PG E_sl05Has 103 s_sl05Has (c_sl05Has.ht 18) .no = some (c_sl05Has.wc E_sl05Has, [4]) := by kernel_rfl
theorem ok_sl05Has : p_sl05Has.Ok PG 103 := mkOk (env_nil PG) k_sl05Has (by kernel_rfl)
theorem e_sl05Has (n : Nat) (a0 : List (Int × Int)) (a1 : Int × Int) : f_sl05Has n (a0, a1) =
  Option.bind (loopT n (X := Int) (B := (Unit) ⊕ (Bool)) (fun self1 x0 =>
    bif decide (x0 < (a0.length : Int)) then
     bnd a0.length x0 fun n2 =>
     Option.bind a0[n2]? fun y3 =>
     bif (decide (y3.1 = a1.1) && (decide (y3.2 = a1.2) && true)) then
      some (Sum.inr true)
     else self1 (IntKind.wrap .i64 (x0 + (1 : Int)))
    else some (Sum.inl ())) (0 : Int) : Option ((Unit) ⊕ (Bool))) fun y => match y with
  | .inl x4 =>
   some (false, ())
  | .inr x4 =>
   some (x4, ()) := by kernel_rfl
/- spec.l05Less -/
def c_sl05Less : TC :=
 (.seq (.rg [o1 2 (.a (.t 0)),
   o1 3 (.a (.t 1)),
   o1 4 (.lit [.b] [.bool false])])
 (.seq (.join [⟨4, [.b], false⟩] 16777200 none (.rg [o1 5 (.idx .nil),
   o1 6 (.load 2 [] 0 (.t 5) 1 false),
   o1 7 (.idx .nil),
   o1 8 (.load 3 [] 0 (.t 7) 1 false),
   o1 9 (.data (.bin .lss) [.t 6, .t 8]),
   o1 10 (.copy 9),
   o2 11 (.idx .nil) 5 false,
   o2 12 (.load 2 [] 0 (.t 11) 1 false) 5 false,
   o2 13 (.idx .nil) 5 false,
   o2 14 (.load 3 [] 0 (.t 13) 1 false) 5 false,
   o2 15 (.data (.bin .eql) [.t 12, .t 14]) 5 false,
   o2 16 (.copy 15) 5 false,
   o2 17 (.idx .nil) 11 true,
   o2 18 (.load 2 [] 1 (.t 17) 1 false) 11 true,
   o2 19 (.idx .nil) 11 true,
   o2 20 (.load 3 [] 1 (.t 19) 1 false) 11 true,
   o2 21 (.data (.bin .lss) [.t 18, .t 20]) 11 true,
   ⟨false, [], [], .pick 16 (.t 21) (.c (.bool false)), [22], (some 22), some (5, false)⟩,
   ⟨false, [], [], .pick 10 (.c (.bool true)) (.t 22), [23], (some 23), none⟩,
   o1 4 (.copy 23)]))
 .ret))
def s_sl05Less : Sig := ⟨[.rd true [.d, .d], .rd true [.d, .d]], (.one false [.d])⟩
noncomputable def E_sl05Less : TEnv := envOf []
noncomputable def f_sl05Less (n : Nat) : (Int × Int) × (Int × Int) → Option ((Bool) × Unit) := runFn n E_sl05Less c_sl05Less [[.i .i64, .i .i64], [.i .i64, .i .i64]] [.b] [] [4] .no
noncomputable def g_sl05Less := f_sl05Less BIG
noncomputable def p_sl05Less : TSp := ⟨s_sl05Less, [[.i .i64, .i .i64], [.i .i64, .i .i64]], [.b], [], Ou.j .no, g_sl05Less⟩
theorem k_sl05Less : chkW PG E_sl05Less 116 s_sl05Less (c_sl05Less.ht 24) .no = some (c_sl05Less.wc E_sl05Less, [4]) := by kernel_rfl
theorem ok_sl05Less : p_sl05Less.Ok PG 116 := mkOk (env_nil PG) k_sl05Less (by kernel_rfl)
theorem e_sl05Less (n : Nat) (a0 : Int × Int) (a1 : Int × Int) : f_sl05Less n (a0, a1) =
  Option.bind (bif decide (a0.1 < a1.1) then
    some true
   else bif decide (a0.1 = a1.1) then
    some (decide (a0.2 < a1.2))
   else some false : Option (Bool)) fun x0 =>
  some (x0, ()) := by kernel_rfl
/- spec.l05Put -/
def c_sl05Put : TC :=
 (.seq (.rg [o1 3 (.a (.t 1)),
   o1 4 (.lit [.sl [.i .i64, .i .i64]] [.slice none 0 0])])
 (.seq (.rg [o1 8 (.sli [.i .i64, .i .i64] []),
   ⟨false, [], [], .det 2 (.copy 8), [5, 8], (some 5), none⟩])
 (.seq (.join [⟨5, [.sl [.i .i64, .i .i64]], false⟩] 268435040 none (.seq (.rg [o1 6 (.lit [.i .i64] [.int .i64 (0)])])
 (.block 0 (.loop [⟨5, [.sl [.i .i64, .i .i64]], false⟩, ⟨6, [.i .i64], false⟩] 268435040
  (.seq (.seq (.rg [o1 9 (.copy 6),
    o1 10 (.copy 0),
    o1 11 (.len 10),
    o1 12 (.data (.bin .lss) [.t 9, .t 11])])
  (.cond (.t 12)
   .skip
   (.exit 0)))
  (.seq (.join [⟨5, [.sl [.i .i64, .i .i64]], false⟩] 268402720 none (.block 1 (.seq (.rg [o1 15 (.copy 0),
    o1 16 (.copy 6),
    o1 17 (.index 15 (.t 16)),
    o1 18 (.load 15 [(0, 2)] 0 (.t 17) 2 false),
    o1 19 (.load 3 [] 0 .nil 2 false),
    o3 20 116 [.t 18, .t 19]])
  (.cond (.t 20)
   (.rg [⟨false, [], [], .det 2 (.copy 5), [21, 5], (some 21), none⟩,
     o1 22 (.copy 0),
     o1 23 (.copy 6),
     o1 24 (.index 22 (.t 23)),
     o1 25 (.load 22 [(0, 2)] 0 (.t 24) 2 false),
     o1 26 (.sli [.i .i64, .i .i64] [.t 25]),
     ⟨false, [], [], .det 2 (.app (some 21) 26), [27, 21], (some 27), none⟩,
     ⟨false, [], [], .det 2 (.copy 27), [5, 27], (some 5), none⟩])
   .skip))))
  (.rg [o1 13 (.copy 6),
    o1 14 (.data (.bin .add) [.t 13, .c (.int .i64 (1))]),
    o1 6 (.copy 14)])))))))
 (.seq (.rg [⟨false, [], [], .det 2 (.copy 5), [28, 5], (some 28), none⟩,
   o1 29 (.load 3 [] 0 .nil 2 false),
   o1 30 (.sli [.i .i64, .i .i64] [.t 29]),
   ⟨false, [], [], .det 2 (.app (some 28) 30), [31, 28], (some 31), none⟩,
   ⟨false, [], [], .det 2 (.copy 31), [5, 31], (some 5), none⟩])
 (.seq (.join [⟨5, [.sl [.i .i64, .i .i64]], false⟩] 2251795518718112 none (.seq (.rg [o1 7 (.lit [.i .i64] [.int .i64 (0)])])
 (.block 2 (.loop [⟨5, [.sl [.i .i64, .i .i64]], false⟩, ⟨7, [.i .i64], false⟩] 2251795518718112
  (.seq (.seq (.rg [o1 32 (.copy 7),
    o1 33 (.copy 0),
    o1 34 (.len 33),
    o1 35 (.data (.bin .lss) [.t 32, .t 34])])
  (.cond (.t 35)
   .skip
   (.exit 2)))
  (.seq (.join [⟨5, [.sl [.i .i64, .i .i64]], false⟩] 2251524935778336 none (.block 3 (.seq (.rg [o1 39 (.copy 0),
    o1 40 (.copy 7),
    o1 38 (.load 3 [] 0 .nil 2 false),
    o1 41 (.index 39 (.t 40)),
    o1 42 (.load 39 [(0, 2)] 0 (.t 41) 2 false),
    o3 43 116 [.t 38, .t 42]])
  (.cond (.t 43)
   (.rg [⟨false, [], [], .det 2 (.copy 5), [44, 5], (some 44), none⟩,
     o1 45 (.copy 0),
     o1 46 (.copy 7),
     o1 47 (.index 45 (.t 46)),
     o1 48 (.load 45 [(0, 2)] 0 (.t 47) 2 false),
     o1 49 (.sli [.i .i64, .i .i64] [.t 48]),
     ⟨false, [], [], .det 2 (.app (some 44) 49), [50, 44], (some 50), none⟩,
     ⟨false, [], [], .det 2 (.copy 50), [5, 50], (some 5), none⟩])
   .skip))))
  (.rg [o1 36 (.copy 7),
    o1 37 (.data (.bin .add) [.t 36, .c (.int .i64 (1))]),
    o1 7 (.copy 37)])))))))
 (.seq (.rg [⟨false, [], [], .det 2 (.copy 5), [51, 5], (some 51), none⟩,
   ⟨false, [], [], .det 2 (.copy 51), [4, 51], (some 4), none⟩])
 .ret))))))
def s_sl05Put : Sig := ⟨[.rd false [.sl (.own none) [.d, .d]], .rd true [.d, .d]], (.one false [.sl (.own none) [.d, .d]])⟩
noncomputable def E_sl05Put : TEnv := envOf [(116, p_sl05Less)]
noncomputable def f_sl05Put (n : Nat) : (List (Int × Int)) × (Int × Int) → Option ((List (Int × Int)) × Unit) := runFn n E_sl05Put c_sl05Put [[.sl [.i .i64, .i .i64]], [.i .i64, .i .i64]] [.sl [.i .i64, .i .i64]] [] [4] .no
noncomputable def g_sl05Put := f_sl05Put BIG
noncomputable def p_sl05Put : TSp := ⟨s_sl05Put, [[.sl [.i .i64, .i .i64]], [.i .i64, .i .i64]], [.sl [.i .i64, .i .i64]], [], Ou.j .no, g_sl05Put⟩
theorem k_sl05Put : chkW PG E_sl05Put 114 s_sl05Put (c_sl05Put.ht 52) .no = some (c_sl05Put.wc E_sl05Put, [4]) := by kernel_rfl
theorem ok_sl05Put : p_sl05Put.Ok PG 114 := mkOk (env_cons ok_sl05Less (env_nil PG)) k_sl05Put (by kernel_rfl)
theorem e_sl05Put (n : Nat) (a0 : List (Int × Int)) (a1 : Int × Int) : f_sl05Put n (a0, a1) =
  Option.bind (loopT n (X := (List (Int × Int)) × Int) (B := (List (Int × Int))) (fun self1 x0 =>
    bif decide (x0.2 < (a0.length : Int)) then
     Option.bind (bnd a0.length x0.2 fun n2 =>
      Option.bind a0[n2]? fun y3 =>
      Option.bind (g_sl05Less (y3, a1)) fun r4 =>
      bif r4.1 then
       bnd a0.length x0.2 fun n5 =>
       Option.bind a0[n5]? fun y6 =>
       bif decide (x0.1.length + [y6].length ≤ 4294967296) then
        some (x0.1 ++ [y6])
       else none
      else some x0.1 : Option ((List (Int × Int)))) fun x7 =>
     self1 (x7, IntKind.wrap .i64 (x0.2 + (1 : Int)))
    else some x0.1) ([], (0 : Int)) : Option ((List (Int × Int)))) fun x8 =>
  bif decide (x8.length + [a1].length ≤ 4294967296) then
   Option.bind (loopT n (X := (List (Int × Int)) × Int) (B := (List (Int × Int))) (fun self10 x9 =>
     bif decide (x9.2 < (a0.length : Int)) then
      Option.bind (bnd a0.length x9.2 fun n11 =>
       Option.bind a0[n11]? fun y12 =>
       Option.bind (g_sl05Less (a1, y12)) fun r13 =>
       bif r13.1 then
        bnd a0.length x9.2 fun n14 =>
        Option.bind a0[n14]? fun y15 =>
        bif decide (x9.1.length + [y15].length ≤ 4294967296) then
         some (x9.1 ++ [y15])
        else none
       else some x9.1 : Option ((List (Int × Int)))) fun x16 =>
      self10 (x16, IntKind.wrap .i64 (x9.2 + (1 : Int)))
     else some x9.1) (x8 ++ [a1], (0 : Int)) : Option ((List (Int × Int)))) fun x17 =>
   some (x17, ())
  else none := by kernel_rfl
/- spec.l09Order -/
def c_sl09Order : TC :=
 (.seq (.rg [⟨false, [], [], .det 2 (.a (.c [.i .i64, .i .i64, .sl [.i .i64, .i .i64], .i .i64] [.int .i64 (0), .int .i64 (0), .slice none 0 0, .int .i64 (0)])), [4, 1000000001], (some 4), none⟩])
 (.seq (.rg [o1 8 (.p0),
   ⟨false, [], [], .call 2 41 [.t 0, .c [.i .i64] [.int .i64 (9)]] (.mp 0), [9, 0], (some 9), none⟩,
   o1 10 (.data (.bin .add) [.c (.int .i64 (1)), .t 9]),
   o1 11 (.p0),
   ⟨false, [], [], .det 8 (.sli [.i .i64] [.c [.i .i64] [.int .i64 (1)], .c [.i .i64] [.int .i64 (1)], .c [.i .i64] [.int .i64 (1)], .c [.i .i64] [.int .i64 (2)], .c [.i .i64] [.int .i64 (2)], .c [.i .i64] [.int .i64 (3)], .c [.i .i64] [.int .i64 (4)]]), [12, 1000000001, 1000000002, 1000000003, 1000000004, 1000000005, 1000000006, 1000000007], (some 12), none⟩,
   ⟨false, [], [], .call 2 84 [.t 0, .t 12] (.mp 0), [13, 0], (some 13), none⟩,
   o1 14 (.build [.i .i64, .i .i64, .sl [.i .i64, .i .i64], .i .i64] [(0, .t 10), (1, .t 13)]),
   ⟨false, [], [], .det 2 (.a (.c [.i .i64, .i .i64, .sl [.i .i64, .i .i64], .i .i64] [.int .i64 (0), .int .i64 (0), .slice none 0 0, .int .i64 (0)])), [5, 1000000001], (some 5), none⟩,
   o4 2 [5, 14] (.store 5 [] 0 .nil (.t 14))])
 (.seq (.join [⟨0, [.sl [.i .u8], .i .i64, .i .i64], false⟩, ⟨5, [.i .i64, .i .i64, .sl [.i .i64, .i .i64], .i .i64], false⟩] 1125899906810081 none (.seq (.rg [o1 15 (.idx .nil),
   o1 16 (.load 5 [] 1 (.t 15) 1 false)])
 (.block 0 (.seq (.rg [o1 23 (.data (.bin .eql) [.t 16, .c (.int .i64 (3))]),
   o1 22 (.copy 23)])
 (.cond (.t 22)
  (.rg [o1 24 (.p0),
    o1 25 (.copy 1),
    ⟨false, [], [], .call 2 41 [.t 0, .t 25] (.mp 0), [26, 0], (some 26), none⟩,
    o1 27 (.idx .nil),
    o4 1 [5] (.store 5 [] 3 (.t 27) (.t 26))])
  (.seq (.rg [o1 29 (.data (.bin .eql) [.t 16, .c (.int .i64 (4))]),
    o1 28 (.copy 29)])
  (.cond (.t 28)
   (.seq (.rg [o1 6 (.lit [.i .i64] [.int .i64 (0)])])
   (.block 1 (.loop [⟨0, [.sl [.i .u8], .i .i64, .i .i64], false⟩, ⟨5, [.i .i64, .i .i64, .sl [.i .i64, .i .i64], .i .i64], false⟩, ⟨6, [.i .i64], false⟩] 1125898833101025
    (.seq (.seq (.rg [o1 30 (.copy 6),
      o1 31 (.p0),
      ⟨false, [], [], .call 2 41 [.t 0, .c [.i .i64] [.int .i64 (4)]] (.mp 0), [32, 0], (some 32), none⟩,
      o1 33 (.data (.bin .add) [.c (.int .i64 (1)), .t 32]),
      o1 34 (.data (.bin .lss) [.t 30, .t 33])])
    (.cond (.t 34)
     .skip
     (.exit 1)))
    (.seq (.join [⟨0, [.sl [.i .u8], .i .i64, .i .i64], false⟩, ⟨5, [.i .i64, .i .i64, .sl [.i .i64, .i .i64], .i .i64], false⟩] 1125762467889313 none (.block 2 (.seq (.rg [o1 37 (.p0),
      o1 38 (.copy 1),
      ⟨false, [], [], .call 2 146 [.t 0, .t 38] (.mp 0), [39, 0], (some 39), none⟩,
      ⟨false, [], [], .det 2 (.a (.c [.i .i64, .i .i64] [.int .i64 (0), .int .i64 (0)])), [7, 1000000001], (some 7), none⟩,
      o4 1 [7] (.store 7 [] 0 .nil (.t 39))])
    (.seq (.rg [o1 40 (.idx .nil),
      o1 41 (.load 5 [] 2 (.t 40) 1 true),
      o1 42 (.load 7 [] 0 .nil 2 false),
      o3 43 103 [.t 41, .t 42],
      o1 44 (.data .not [.t 43])])
    (.cond (.t 44)
     (.rg [o1 45 (.idx .nil),
       o1 46 (.load 5 [] 2 (.t 45) 1 true),
       o1 47 (.load 7 [] 0 .nil 2 false),
       o3 48 114 [.t 46, .t 47],
       o1 49 (.idx .nil),
       o4 2 [5, 48, 41, 46] (.store 5 [] 2 (.t 49) (.t 48))])
     .skip)))))
    (.rg [o1 35 (.copy 6),
      o1 36 (.data (.bin .add) [.t 35, .c (.int .i64 (1))]),
      o1 6 (.copy 36)]))))))
   (.rg [o1 17 (.p0),
     o1 18 (.copy 1),
     ⟨false, [], [], .call 2 146 [.t 0, .t 18] (.mp 0), [19, 0], (some 19), none⟩,
     o1 20 (.sli [.i .i64, .i .i64] [.t 19]),
     o1 21 (.idx .nil),
     o4 2 [5, 20] (.store 5 [] 2 (.t 21) (.t 20))]))))))))
 (.seq (.rg [o1 50 (.load 5 [] 0 .nil 4 true),
   ⟨false, [50], [], .det 2 (.store 4 [] 0 .nil (.t 50)), [4, 50, 50, 5], none, none⟩])
 .ret))))
def s_sl09Order : Sig := ⟨[.mp [.sl (.ro []) [.d], .d, .d], .rd false [.d]], (.one true [.d, .d, .sl (.own none) [.d, .d], .d])⟩
noncomputable def E_sl09Order : TEnv := envOf [(41, p_sl01Below), (84, p_sl01PickInt), (146, p_sl05Edge), (103, p_sl05Has), (114, p_sl05Put)]
noncomputable def f_sl09Order (n : Nat) : (List (Int) × Int × Int) × Int → Option ((Int × Int × List (Int × Int) × Int) × List (Int) × Int × Int) := runFn n E_sl09Order c_sl09Order [[.sl [.i .u8], .i .i64, .i .i64], [.i .i64]] [.i .i64, .i .i64, .sl [.i .i64, .i .i64], .i .i64] [.sl [.i .u8], .i .i64, .i .i64] [4] (.mp 0)
noncomputable def g_sl09Order := f_sl09Order BIG
noncomputable def p_sl09Order : TSp := ⟨s_sl09Order, [[.sl [.i .u8], .i .i64, .i .i64], [.i .i64]], [.i .i64, .i .i64, .sl [.i .i64, .i .i64], .i .i64], [.sl [.i .u8], .i .i64, .i .i64], Ou.j (.mp 0), g_sl09Order⟩
theorem k_sl09Order : chkW PG E_sl09Order 122 s_sl09Order (c_sl09Order.ht 51) (.mp 0) = some (c_sl09Order.wc E_sl09Order, [4]) := by kernel_rfl
theorem ok_sl09Order : p_sl09Order.Ok PG 122 := mkOk (env_cons ok_sl01Below (env_cons ok_sl01PickInt (env_cons ok_sl05Edge (env_cons ok_sl05Has (env_cons ok_sl05Put (env_nil PG)))))) k_sl09Order (by kernel_rfl)
theorem e_sl09Order (n : Nat) (a0 : List (Int) × Int × Int) (a1 : Int) : f_sl09Order n (a0, a1) =
  Option.bind (g_sl01Below (a0, (9 : Int))) fun r0 =>
  Option.bind (g_sl01PickInt (r0.2, [(1 : Int), (1 : Int), (1 : Int), (2 : Int), (2 : Int), (3 : Int), (4 : Int)])) fun r1 =>
  Option.bind (bif decide (r1.1 = (3 : Int)) then
    Option.bind (g_sl01Below (r1.2, a1)) fun r2 =>
    some (r2.2, (IntKind.wrap .i64 ((1 : Int) + r0.1), r1.1, [], r2.1))
   else bif decide (r1.1 = (4 : Int)) then
    loopT n (X := (List (Int) × Int × Int) × (Int × Int × List (Int × Int) × Int) × Int) (B := (List (Int) × Int × Int) × (Int × Int × List (Int × Int) × Int)) (fun self4 x3 =>
     Option.bind (g_sl01Below (x3.1, (4 : Int))) fun r5 =>
     bif decide (x3.2.2 < (IntKind.wrap .i64 ((1 : Int) + r5.1))) then
      Option.bind (Option.bind (g_sl05Edge (r5.2, a1)) fun r6 =>
       Option.bind (g_sl05Has (x3.2.1.2.2.1, r6.1)) fun r7 =>
       bif !r7.1 then
        Option.bind (g_sl05Put (x3.2.1.2.2.1, r6.1)) fun r8 =>
        some (r6.2, (x3.2.1.1, x3.2.1.2.1, r8.1, x3.2.1.2.2.2))
       else some (r6.2, x3.2.1) : Option ((List (Int) × Int × Int) × (Int × Int × List (Int × Int) × Int))) fun x9 =>
      self4 (x9.1, x9.2, IntKind.wrap .i64 (x3.2.2 + (1 : Int)))
     else some (r5.2, x3.2.1)) (r1.2, (IntKind.wrap .i64 ((1 : Int) + r0.1), r1.1, [], (0 : Int)), (0 : Int))
   else Option.bind (g_sl05Edge (r1.2, a1)) fun r10 =>
   some (r10.2, (IntKind.wrap .i64 ((1 : Int) + r0.1), r1.1, [r10.1], (0 : Int))) : Option ((List (Int) × Int × Int) × (Int × Int × List (Int × Int) × Int))) fun x11 =>
  some (x11.2, x11.1) := by kernel_rfl
/- spec.l01Once -/
def c_sl01Once : TC :=
 (.seq (.rg [o1 4 (.lit [.b] [.bool false])])
 (.seq (.rg [o1 5 (.p0),
   o1 6 (.copy 1),
   ⟨false, [], [], .call 2 41 [.t 0, .t 6] (.mp 0), [7, 0], (some 7), none⟩,
   o1 8 (.data (.bin .eql) [.t 7, .c (.int .i64 (0))]),
   o1 4 (.copy 8)])
 .ret))
def s_sl01Once : Sig := ⟨[.mp [.sl (.ro []) [.d], .d, .d], .rd false [.d]], (.one false [.d])⟩
noncomputable def E_sl01Once : TEnv := envOf [(41, p_sl01Below)]
noncomputable def f_sl01Once (n : Nat) : (List (Int) × Int × Int) × Int → Option ((Bool) × List (Int) × Int × Int) := runFn n E_sl01Once c_sl01Once [[.sl [.i .u8], .i .i64, .i .i64], [.i .i64]] [.b] [.sl [.i .u8], .i .i64, .i .i64] [4] (.mp 0)
noncomputable def g_sl01Once := f_sl01Once BIG
noncomputable def p_sl01Once : TSp := ⟨s_sl01Once, [[.sl [.i .u8], .i .i64, .i .i64], [.i .i64]], [.b], [.sl [.i .u8], .i .i64, .i .i64], Ou.j (.mp 0), g_sl01Once⟩
theorem k_sl01Once : chkW PG E_sl01Once 52 s_sl01Once (c_sl01Once.ht 9) (.mp 0) = some (c_sl01Once.wc E_sl01Once, [4]) := by kernel_rfl
theorem ok_sl01Once : p_sl01Once.Ok PG 52 := mkOk (env_cons ok_sl01Below (env_nil PG)) k_sl01Once (by kernel_rfl)
theorem e_sl01Once (n : Nat) (a0 : List (Int) × Int × Int) (a1 : Int) : f_sl01Once n (a0, a1) =
  Option.bind (g_sl01Below (a0, a1)) fun r0 =>
  some (decide (r0.1 = (0 : Int)), r0.2) := by kernel_rfl
/- spec.l05AnyEdge -/
def c_sl05AnyEdge : TC :=
 (.seq (.rg [o1 3 (.a (.t 1)),
   ⟨false, [], [], .det 2 (.a (.c [.i .i64, .i .i64] [.int .i64 (0), .int .i64 (0)])), [4, 1000000001], (some 4), none⟩])
 (.seq (.seq (.join [⟨0, [.sl [.i .u8], .i .i64, .i .i64], false⟩, ⟨12, [.b], false⟩] 8161 none (.rg [o1 5 (.idx .nil),
   o1 6 (.load 3 [] 1 (.t 5) 1 false),
   o1 7 (.len 6),
   o1 8 (.data (.bin .gtr) [.t 7, .c (.int .i64 (0))]),
   o1 9 (.copy 8),
   o2 10 (.p0) 4 true,
   ⟨false, [], [], .call 2 52 [.t 0, .c [.i .i64] [.int .i64 (2)]] (.mp 0), [11, 0], (some 11), some (4, true)⟩,
   ⟨false, [], [], .pick 9 (.t 11) (.c (.bool false)), [12], (some 12), none⟩]))
 (.cond (.t 12)
  (.seq (.rg [o1 15 (.p0),
    ⟨false, [], [0], .det 1 (.idx .nil), [13], (some 13), none⟩,
    ⟨false, [], [0], .det 1 (.load 3 [] 1 (.t 13) 1 false), [14], (some 14), none⟩,
    o1 16 (.idx .nil),
    o1 17 (.load 3 [] 1 (.t 16) 1 false),
    o1 18 (.len 17),
    ⟨false, [], [], .call 2 41 [.t 0, .t 18] (.mp 0), [19, 0], (some 19), none⟩,
    o1 20 (.index 14 (.t 19)),
    o1 21 (.load 14 [(0, 2)] 0 (.t 20) 2 false),
    o4 1 [4] (.store 4 [] 0 .nil (.t 21))])
  .ret)
  .skip))
 (.seq (.seq (.rg [o1 22 (.p0),
   ⟨false, [], [], .call 2 52 [.t 0, .c [.i .i64] [.int .i64 (12)]] (.mp 0), [23, 0], (some 23), none⟩])
 (.cond (.t 23)
  (.seq (.rg [o1 24 (.p0),
    ⟨false, [], [], .det 6 (.sli [.i .i64] [.c [.i .i64] [.int .i64 (-1)], .c [.i .i64] [.int .i64 (0)], .c [.i .i64] [.int .i64 (5)], .c [.i .i64] [.int .i64 (11)], .c [.i .i64] [.int .i64 (12)]]), [25, 1000000001, 1000000002, 1000000003, 1000000004, 1000000005], (some 25), none⟩,
    ⟨false, [], [], .call 2 84 [.t 0, .t 25] (.mp 0), [26, 0], (some 26), none⟩,
    o1 27 (.p0),
    ⟨false, [], [], .det 5 (.sli [.i .i64] [.c [.i .i64] [.int .i64 (0)], .c [.i .i64] [.int .i64 (5)], .c [.i .i64] [.int .i64 (11)], .c [.i .i64] [.int .i64 (12)]]), [28, 1000000001, 1000000002, 1000000003, 1000000004], (some 28), none⟩,
    ⟨false, [], [], .call 2 84 [.t 0, .t 28] (.mp 0), [29, 0], (some 29), none⟩,
    o1 30 (.build [.i .i64, .i .i64] [(0, .t 26), (1, .t 29)]),
    o4 1 [4] (.store 4 [] 0 .nil (.t 30))])
  .ret)
  .skip))
 (.seq (.rg [o1 31 (.p0),
   ⟨false, [], [], .call 2 146 [.t 0, .c [.i .i64] [.int .i64 (6)]] (.mp 0), [32, 0], (some 32), none⟩,
   o4 1 [4] (.store 4 [] 0 .nil (.t 32))])
 .ret))))
def s_sl05AnyEdge : Sig := ⟨[.mp [.sl (.ro []) [.d], .d, .d], .rd true [.d, .sl (.own none) [.d, .d]]], (.one true [.d, .d])⟩
noncomputable def E_sl05AnyEdge : TEnv := envOf [(52, p_sl01Once), (41, p_sl01Below), (84, p_sl01PickInt), (146, p_sl05Edge)]
noncomputable def f_sl05AnyEdge (n : Nat) : (List (Int) × Int × Int) × (Int × List (Int × Int)) → Option ((Int × Int) × List (Int) × Int × Int) := runFn n E_sl05AnyEdge c_sl05AnyEdge [[.sl [.i .u8], .i .i64, .i .i64], [.i .i64, .sl [.i .i64, .i .i64]]] [.i .i64, .i .i64] [.sl [.i .u8], .i .i64, .i .i64] [4] (.mp 0)
noncomputable def g_sl05AnyEdge := f_sl05AnyEdge BIG
noncomputable def p_sl05AnyEdge : TSp := ⟨s_sl05AnyEdge, [[.sl [.i .u8], .i .i64, .i .i64], [.i .i64, .sl [.i .i64, .i .i64]]], [.i .i64, .i .i64], [.sl [.i .u8], .i .i64, .i .i64], Ou.j (.mp 0), g_sl05AnyEdge⟩
theorem k_sl05AnyEdge : chkW PG E_sl05AnyEdge 106 s_sl05AnyEdge (c_sl05AnyEdge.ht 33) (.mp 0) = some (c_sl05AnyEdge.wc E_sl05AnyEdge, [4]) := by kernel_rfl
theorem ok_sl05AnyEdge : p_sl05AnyEdge.Ok PG 106 := mkOk (env_cons ok_sl01Once (env_cons ok_sl01Below (env_cons ok_sl01PickInt (env_cons ok_sl05Edge (env_nil PG))))) k_sl05AnyEdge (by kernel_rfl)
theorem e_sl05AnyEdge (n : Nat) (a0 : List (Int) × Int × Int) (a1 : Int × List (Int × Int)) : f_sl05AnyEdge n (a0, a1) =
  Option.bind (bif decide ((0 : Int) < (a1.2.length : Int)) then
    Option.bind (g_sl01Once (a0, (2 : Int))) fun r0 =>
    some (r0.2, r0.1)
   else some (a0, false) : Option ((List (Int) × Int × Int) × Bool)) fun x1 =>
  bif x1.2 then
   Option.bind (g_sl01Below (x1.1, (a1.2.length : Int))) fun r2 =>
   bnd a1.2.length r2.1 fun n3 =>
   Option.bind a1.2[n3]? fun y4 =>
   some (y4, r2.2)
  else Option.bind (g_sl01Once (x1.1, (12 : Int))) fun r5 =>
  bif r5.1 then
   Option.bind (g_sl01PickInt (r5.2, [(-1 : Int), (0 : Int), (5 : Int), (11 : Int), (12 : Int)])) fun r6 =>
   Option.bind (g_sl01PickInt (r6.2, [(0 : Int), (5 : Int), (11 : Int), (12 : Int)])) fun r7 =>
   some ((r6.1, r7.1), r7.2)
  else Option.bind (g_sl05Edge (r5.2, (6 : Int))) fun r8 =>
  some (r8.1, r8.2) := by kernel_rfl
/- spec.l09AnyOrder -/
def c_sl09AnyOrder : TC :=
 (.seq (.rg [⟨false, [], [], .det 2 (.a (.c [.i .i64, .i .i64, .sl [.i .i64, .i .i64], .i .i64] [.int .i64 (0), .int .i64 (0), .slice none 0 0, .int .i64 (0)])), [4, 1000000001], (some 4), none⟩])
 (.seq (.rg [o1 6 (.p0),
   o1 7 (.copy 1),
   ⟨false, [], [], .call 2 122 [.t 0, .t 7] (.mp 0), [8, 0], (some 8), none⟩,
   ⟨false, [], [], .det 2 (.a (.c [.i .i64, .i .i64, .sl [.i .i64, .i .i64], .i .i64] [.int .i64 (0), .int .i64 (0), .slice none 0 0, .int .i64 (0)])), [5, 1000000001], (some 5), none⟩,
   o4 2 [5, 8] (.store 5 [] 0 .nil (.t 8))])
 (.seq (.join [⟨0, [.sl [.i .u8], .i .i64, .i .i64], false⟩, ⟨5, [.i .i64, .i .i64, .sl [.i .i64, .i .i64], .i .i64], false⟩] 549755813409 none (.seq (.rg [o1 9 (.p0),
   ⟨false, [], [], .call 2 41 [.t 0, .c [.i .i64] [.int .i64 (20)]] (.mp 0), [10, 0], (some 10), none⟩])
 (.block 0 (.seq (.rg [o1 12 (.data (.bin .eql) [.t 10, .c (.int .i64 (0))]),
   o1 11 (.copy 12)])
 (.cond (.t 11)
  (.rg [o1 13 (.p0),
    ⟨false, [], [], .det 5 (.sli [.i .i64] [.c [.i .i64] [.int .i64 (0)], .c [.i .i64] [.int .i64 (-1)], .c [.i .i64] [.int .i64 (100000)], .c [.i .i64] [.int .i64 (100001)]]), [14, 1000000001, 1000000002, 1000000003, 1000000004], (some 14), none⟩,
    ⟨false, [], [], .call 2 84 [.t 0, .t 14] (.mp 0), [15, 0], (some 15), none⟩,
    o1 16 (.idx .nil),
    o4 1 [5] (.store 5 [] 0 (.t 16) (.t 15))])
  (.seq (.rg [o1 18 (.data (.bin .eql) [.t 10, .c (.int .i64 (1))]),
    o1 17 (.copy 18)])
  (.cond (.t 17)
   (.rg [o1 19 (.p0),
     ⟨false, [], [], .det 6 (.sli [.i .i64] [.c [.i .i64] [.int .i64 (0)], .c [.i .i64] [.int .i64 (5)], .c [.i .i64] [.int .i64 (1)], .c [.i .i64] [.int .i64 (3)], .c [.i .i64] [.int .i64 (4)]]), [20, 1000000001, 1000000002, 1000000003, 1000000004, 1000000005], (some 20), none⟩,
     ⟨false, [], [], .call 2 84 [.t 0, .t 20] (.mp 0), [21, 0], (some 21), none⟩,
     o1 22 (.idx .nil),
     o4 1 [5] (.store 5 [] 1 (.t 22) (.t 21))])
   (.seq (.rg [o1 24 (.data (.bin .eql) [.t 10, .c (.int .i64 (2))]),
     o1 23 (.copy 24)])
   (.cond (.t 23)
    (.rg [o1 25 (.p0),
      ⟨false, [], [], .det 5 (.sli [.i .i64] [.c [.i .i64] [.int .i64 (-1)], .c [.i .i64] [.int .i64 (1)], .c [.i .i64] [.int .i64 (11)], .c [.i .i64] [.int .i64 (12)]]), [26, 1000000001, 1000000002, 1000000003, 1000000004], (some 26), none⟩,
      ⟨false, [], [], .call 2 84 [.t 0, .t 26] (.mp 0), [27, 0], (some 27), none⟩,
      o1 28 (.idx .nil),
      o4 1 [5] (.store 5 [] 3 (.t 28) (.t 27))])
    (.seq (.rg [o1 30 (.data (.bin .eql) [.t 10, .c (.int .i64 (3))]),
      o1 29 (.copy 30)])
    (.cond (.t 29)
     (.rg [o1 33 (.p0),
       ⟨false, [], [0], .det 1 (.idx .nil), [31], (some 31), none⟩,
       ⟨false, [], [0], .det 1 (.load 5 [] 2 (.t 31) 1 true), [32], (some 32), none⟩,
       o1 34 (.build [.i .i64, .sl [.i .i64, .i .i64]] []),
       ⟨false, [], [], .call 2 106 [.t 0, .t 34] (.mp 0), [35, 0], (some 35), none⟩,
       o1 36 (.sli [.i .i64, .i .i64] [.t 35]),
       ⟨false, [32], [], .det 2 (.app (some 32) 36), [37, 32, 32, 5], (some 37), none⟩,
       o1 38 (.idx .nil),
       o4 2 [5, 37, 32] (.store 5 [] 2 (.t 38) (.t 37))])
     .skip)))))))))))
 (.seq (.rg [o1 39 (.load 5 [] 0 .nil 4 true),
   ⟨false, [39], [], .det 2 (.store 4 [] 0 .nil (.t 39)), [4, 39, 39, 5], none, none⟩])
 .ret))))
def s_sl09AnyOrder : Sig := ⟨[.mp [.sl (.ro []) [.d], .d, .d], .rd false [.d]], (.one true [.d, .d, .sl (.own none) [.d, .d], .d])⟩
noncomputable def E_sl09AnyOrder : TEnv := envOf [(122, p_sl09Order), (41, p_sl01Below), (84, p_sl01PickInt), (106, p_sl05AnyEdge)]
noncomputable def f_sl09AnyOrder (n : Nat) : (List (Int) × Int × Int) × Int → Option ((Int × Int × List (Int × Int) × Int) × List (Int) × Int × Int) := runFn n E_sl09AnyOrder c_sl09AnyOrder [[.sl [.i .u8], .i .i64, .i .i64], [.i .i64]] [.i .i64, .i .i64, .sl [.i .i64, .i .i64], .i .i64] [.sl [.i .u8], .i .i64, .i .i64] [4] (.mp 0)
noncomputable def g_sl09AnyOrder := f_sl09AnyOrder BIG
noncomputable def p_sl09AnyOrder : TSp := ⟨s_sl09AnyOrder, [[.sl [.i .u8], .i .i64, .i .i64], [.i .i64]], [.i .i64, .i .i64, .sl [.i .i64, .i .i64], .i .i64], [.sl [.i .u8], .i .i64, .i .i64], Ou.j (.mp 0), g_sl09AnyOrder⟩
theorem k_sl09AnyOrder : chkW PG E_sl09AnyOrder 77 s_sl09AnyOrder (c_sl09AnyOrder.ht 40) (.mp 0) = some (c_sl09AnyOrder.wc E_sl09AnyOrder, [4]) := by kernel_rfl
theorem ok_sl09AnyOrder : p_sl09AnyOrder.Ok PG 77 := mkOk (env_cons ok_sl09Order (env_cons ok_sl01Below (env_cons ok_sl01PickInt (env_cons ok_sl05AnyEdge (env_nil PG))))) k_sl09AnyOrder (by kernel_rfl)
theorem e_sl09AnyOrder (n : Nat) (a0 : List (Int) × Int × Int) (a1 : Int) : f_sl09AnyOrder n (a0, a1) =
  Option.bind (g_sl09Order (a0, a1)) fun r0 =>
  Option.bind (Option.bind (g_sl01Below (r0.2, (20 : Int))) fun r1 =>
   bif decide (r1.1 = (0 : Int)) then
    Option.bind (g_sl01PickInt (r1.2, [(0 : Int), (-1 : Int), (100000 : Int), (100001 : Int)])) fun r2 =>
    some (r2.2, (r2.1, r0.1.2))
   else bif decide (r1.1 = (1 : Int)) then
    Option.bind (g_sl01PickInt (r1.2, [(0 : Int), (5 : Int), (1 : Int), (3 : Int), (4 : Int)])) fun r3 =>
    some (r3.2, (r0.1.1, r3.1, r0.1.2.2))
   else bif decide (r1.1 = (2 : Int)) then
    Option.bind (g_sl01PickInt (r1.2, [(-1 : Int), (1 : Int), (11 : Int), (12 : Int)])) fun r4 =>
    some (r4.2, (r0.1.1, r0.1.2.1, r0.1.2.2.1, r4.1))
   else bif decide (r1.1 = (3 : Int)) then
    Option.bind (g_sl05AnyEdge (r1.2, ((0 : Int), []))) fun r5 =>
    bif decide (r0.1.2.2.1.length + [r5.1].length ≤ 4294967296) then
     some (r5.2, (r0.1.1, r0.1.2.1, r0.1.2.2.1 ++ [r5.1], r0.1.2.2.2))
    else none
   else some (r1.2, r0.1) : Option ((List (Int) × Int × Int) × (Int × Int × List (Int × Int) × Int))) fun x6 =>
  some (x6.2, x6.1) := by kernel_rfl
/- spec.DrawOrderOk -/
def c_sDrawOrderOk : TC :=
 (.seq (.rg [o1 2 (.lit [.i .i64] [.int .i64 (0)]),
   ⟨false, [], [], .det 2 (.a (.c [.i .i64, .i .i64, .sl [.i .i64, .i .i64], .i .i64] [.int .i64 (0), .int .i64 (0), .slice none 0 0, .int .i64 (0)])), [3, 1000000001], (some 3), none⟩])
 (.seq (.rg [o1 7 (.copy 0),
   o3 8 39 [.t 7],
   o1 4 (.p0)])
 (.seq (.rg [o1 9 (.same 4),
   ⟨false, [], [], .call 2 75 [.t 8] (.mp 0), [10, 8], (some 10), none⟩,
   o1 5 (.copy 10)])
 (.seq (.rg [o1 11 (.same 4),
   o1 12 (.copy 5),
   ⟨false, [], [], .call 2 77 [.t 8, .t 12] (.mp 0), [13, 8], (some 13), none⟩,
   ⟨false, [], [], .det 2 (.a (.c [.i .i64, .i .i64, .sl [.i .i64, .i .i64], .i .i64] [.int .i64 (0), .int .i64 (0), .slice none 0 0, .int .i64 (0)])), [6, 1000000001], (some 6), none⟩,
   o4 2 [6, 13] (.store 6 [] 0 .nil (.t 13))])
 (.seq (.join [⟨5, [.i .i64], false⟩] 508192 none (.seq (.rg [o1 14 (.same 4),
   ⟨false, [], [], .call 2 52 [.t 8, .c [.i .i64] [.int .i64 (15)]] (.mp 0), [15, 8], (some 15), none⟩])
 (.cond (.t 15)
  (.rg [o1 16 (.same 4),
    ⟨false, [], [], .det 4 (.sli [.i .i64] [.c [.i .i64] [.int .i64 (0)], .c [.i .i64] [.int .i64 (1)], .c [.i .i64] [.int .i64 (13)]]), [17, 1000000001, 1000000002, 1000000003], (some 17), none⟩,
    ⟨false, [], [], .call 2 84 [.t 8, .t 17] (.mp 0), [18, 8], (some 18), none⟩,
    o1 5 (.copy 18)])
  .skip)))
 (.seq (.rg [o1 19 (.copy 5),
   o1 20 (.load 6 [] 0 .nil 4 true),
   o1 2 (.copy 19),
   ⟨false, [20], [], .det 2 (.store 3 [] 0 .nil (.t 20)), [3, 20, 20, 6], none, none⟩])
 .ret))))))
def s_sDrawOrderOk : Sig := ⟨[.rd false [.sl (.own none) [.d]]], (.tup [(false, 1), (true, 4)] [.d, .d, .d, .sl (.own none) [.d, .d], .d])⟩
noncomputable def E_sDrawOrderOk : TEnv := envOf [(39, p_sl01New), (75, p_sl09N), (77, p_sl09AnyOrder), (52, p_sl01Once), (84, p_sl01PickInt)]
noncomputable def f_sDrawOrderOk (n : Nat) : List (Int) → Option ((Int × Int × Int × List (Int × Int) × Int) × Unit) := runFn n E_sDrawOrderOk c_sDrawOrderOk [[.sl [.i .u8]]] [.i .i64, .i .i64, .i .i64, .sl [.i .i64, .i .i64], .i .i64] [] [2, 3] .no
noncomputable def g_sDrawOrderOk := f_sDrawOrderOk BIG
noncomputable def p_sDrawOrderOk : TSp := ⟨s_sDrawOrderOk, [[.sl [.i .u8]]], [.i .i64, .i .i64, .i .i64, .sl [.i .i64, .i .i64], .i .i64], [], Ou.j .no, g_sDrawOrderOk⟩
theorem k_sDrawOrderOk : chkW PG E_sDrawOrderOk 64 s_sDrawOrderOk (c_sDrawOrderOk.ht 21) .no = some (c_sDrawOrderOk.wc E_sDrawOrderOk, [2, 3]) := by kernel_rfl
theorem ok_sDrawOrderOk : p_sDrawOrderOk.Ok PG 64 := mkOk (env_cons ok_sl01New (env_cons ok_sl09N (env_cons ok_sl09AnyOrder (env_cons ok_sl01Once (env_cons ok_sl01PickInt (env_nil PG)))))) k_sDrawOrderOk (by kernel_rfl)
theorem e_sDrawOrderOk (n : Nat) (a0 : List (Int)) : f_sDrawOrderOk n a0 =
  Option.bind (g_sl01New a0) fun r0 =>
  Option.bind (g_sl09N r0.1) fun r1 =>
  Option.bind (g_sl09AnyOrder (r1.2, r1.1)) fun r2 =>
  Option.bind (Option.bind (g_sl01Once (r2.2, (15 : Int))) fun r3 =>
   bif r3.1 then
    Option.bind (g_sl01PickInt (r3.2, [(0 : Int), (1 : Int), (13 : Int)])) fun r4 =>
    some r4.1
   else some r1.1 : Option (Int)) fun x5 =>
  some ((x5, r2.1), ()) := by kernel_rfl
/- spec.DrawOrderText -/
def c_sDrawOrderText : TC :=
 (.seq (.rg [o1 2 (.lit [.i .i64] [.int .i64 (0)]),
   ⟨false, [], [], .det 2 (.a (.c [.i .i64, .i .i64, .sl [.i .i64, .i .i64], .i .i64] [.int .i64 (0), .int .i64 (0), .slice none 0 0, .int .i64 (0)])), [3, 1000000001], (some 3), none⟩])
 (.seq (.rg [o1 4 (.copy 0),
   o3 5 64 [.t 4],
   o1 6 (.ext 5 0 1),
   ⟨false, [], [], .det 2 (.ext 5 1 4), [7, 5], (some 7), none⟩,
   o1 2 (.copy 6),
   o4 2 [3, 7] (.store 3 [] 0 .nil (.t 7))])
 .ret))
def s_sDrawOrderText : Sig := ⟨[.rd false [.sl (.own none) [.d]]], (.tup [(false, 1), (true, 4)] [.d, .d, .d, .sl (.own none) [.d, .d], .d])⟩
noncomputable def E_sDrawOrderText : TEnv := envOf [(64, p_sDrawOrderOk)]
noncomputable def f_sDrawOrderText (n : Nat) : List (Int) → Option ((Int × Int × Int × List (Int × Int) × Int) × Unit) := runFn n E_sDrawOrderText c_sDrawOrderText [[.sl [.i .u8]]] [.i .i64, .i .i64, .i .i64, .sl [.i .i64, .i .i64], .i .i64] [] [2, 3] .no
noncomputable def g_sDrawOrderText := f_sDrawOrderText BIG
noncomputable def p_sDrawOrderText : TSp := ⟨s_sDrawOrderText, [[.sl [.i .u8]]], [.i .i64, .i .i64, .i .i64, .sl [.i .i64, .i .i64], .i .i64], [], Ou.j .no, g_sDrawOrderText⟩
theorem k_sDrawOrderText : chkW PG E_sDrawOrderText 19 s_sDrawOrderText (c_sDrawOrderText.ht 8) .no = some (c_sDrawOrderText.wc E_sDrawOrderText, [2, 3]) := by kernel_rfl
theorem ok_sDrawOrderText : p_sDrawOrderText.Ok PG 19 := mkOk (env_cons ok_sDrawOrderOk (env_nil PG)) k_sDrawOrderText (by kernel_rfl)
theorem e_sDrawOrderText (n : Nat) (a0 : List (Int)) : f_sDrawOrderText n a0 =
  Option.bind (g_sDrawOrderOk a0) fun r0 =>
  some (r0.1, ()) := by kernel_rfl
/- impl.in -/
def c_iin : TC :=
 (.seq (.rg [o1 6 (.lit [.b] [.bool false])])
 (.seq (.join [⟨6, [.b], false⟩] 32704 none (.rg [o1 7 (.copy 0),
   o1 8 (.copy 1),
   o1 9 (.data (.bin .geq) [.t 7, .t 8]),
   o1 10 (.copy 9),
   o2 11 (.copy 0) 3 true,
   o2 12 (.copy 2) 3 true,
   o2 13 (.data (.bin .leq) [.t 11, .t 12]) 3 true,
   ⟨false, [], [], .pick 10 (.t 13) (.c (.bool false)), [14], (some 14), none⟩,
   o1 6 (.copy 14)]))
 .ret))
def s_iin : Sig := ⟨[.rd false [.d], .rd false [.d], .rd false [.d]], (.one false [.d])⟩
noncomputable def E_iin : TEnv := envOf []
noncomputable def f_iin (n : Nat) : Int × Int × Int → Option ((Bool) × Unit) := runFn n E_iin c_iin [[.i .i64], [.i .i64], [.i .i64]] [.b] [] [6] .no
noncomputable def g_iin := f_iin BIG
noncomputable def p_iin : TSp := ⟨s_iin, [[.i .i64], [.i .i64], [.i .i64]], [.b], [], Ou.j .no, g_iin⟩
theorem k_iin : chkW PG E_iin 42 s_iin (c_iin.ht 15) .no = some (c_iin.wc E_iin, [6]) := by kernel_rfl
theorem ok_iin : p_iin.Ok PG 42 := mkOk (env_nil PG) k_iin (by kernel_rfl)
theorem e_iin (n : Nat) (a0 : Int) (a1 : Int) (a2 : Int) : f_iin n (a0, a1, a2) =
  Option.bind (bif decide (a1 ≤ a0) then
    some (decide (a0 ≤ a2))
   else some false : Option (Bool)) fun x0 =>
  some (x0, ()) := by kernel_rfl
/- impl.EdgeOk -/
def c_iEdgeOk : TC :=
 (.seq (.rg [o1 3 (.a (.t 1)),
   o1 4 (.lit [.b] [.bool false])])
 (.seq (.join [⟨4, [.b], false⟩] 268435440 none (.rg [o1 5 (.copy 0),
   o3 6 42 [.t 5, .c [.i .i64] [.int .i64 (1)], .c [.i .i64] [.int .i64 (12)]],
   o1 7 (.copy 6),
   o2 8 (.idx .nil) 2 true,
   o2 9 (.load 3 [] 0 (.t 8) 1 false) 2 true,
   o2 10 (.copy 0) 2 true,
   o2 11 (.data (.bin .sub) [.t 10, .c (.int .i64 (1))]) 2 true,
   ⟨false, [], [], .call 1 42 [.t 9, .c [.i .i64] [.int .i64 (0)], .t 11] .no, [12], (some 12), some (2, true)⟩,
   ⟨false, [], [], .pick 7 (.t 12) (.c (.bool false)), [13], (some 13), none⟩,
   o1 14 (.copy 13),
   o2 15 (.idx .nil) 9 true,
   o2 16 (.load 3 [] 1 (.t 15) 1 false) 9 true,
   o2 17 (.copy 0) 9 true,
   o2 18 (.data (.bin .sub) [.t 17, .c (.int .i64 (1))]) 9 true,
   ⟨false, [], [], .call 1 42 [.t 16, .c [.i .i64] [.int .i64 (0)], .t 18] .no, [19], (some 19), some (9, true)⟩,
   ⟨false, [], [], .pick 14 (.t 19) (.c (.bool false)), [20], (some 20), none⟩,
   o1 21 (.copy 20),
   o2 22 (.idx .nil) 16 true,
   o2 23 (.load 3 [] 0 (.t 22) 1 false) 16 true,
   o2 24 (.idx .nil) 16 true,
   o2 25 (.load 3 [] 1 (.t 24) 1 false) 16 true,
   o2 26 (.data (.bin .lss) [.t 23, .t 25]) 16 true,
   ⟨false, [], [], .pick 21 (.t 26) (.c (.bool false)), [27], (some 27), none⟩,
   o1 4 (.copy 27)]))
 .ret))
def s_iEdgeOk : Sig := ⟨[.rd false [.d], .rd true [.d, .d]], (.one false [.d])⟩
noncomputable def E_iEdgeOk : TEnv := envOf [(42, p_iin)]
noncomputable def f_iEdgeOk (n : Nat) : Int × (Int × Int) → Option ((Bool) × Unit) := runFn n E_iEdgeOk c_iEdgeOk [[.i .i64], [.i .i64, .i .i64]] [.b] [] [4] .no
noncomputable def g_iEdgeOk := f_iEdgeOk BIG
noncomputable def p_iEdgeOk : TSp := ⟨s_iEdgeOk, [[.i .i64], [.i .i64, .i .i64]], [.b], [], Ou.j .no, g_iEdgeOk⟩
theorem k_iEdgeOk : chkW PG E_iEdgeOk 43 s_iEdgeOk (c_iEdgeOk.ht 28) .no = some (c_iEdgeOk.wc E_iEdgeOk, [4]) := by kernel_rfl
theorem ok_iEdgeOk : p_iEdgeOk.Ok PG 43 := mkOk (env_cons ok_iin (env_nil PG)) k_iEdgeOk (by kernel_rfl)
theorem e_iEdgeOk (n : Nat) (a0 : Int) (a1 : Int × Int) : f_iEdgeOk n (a0, a1) =
  Option.bind (Option.bind (g_iin (a0, (1 : Int), (12 : Int))) fun r0 =>
   bif r0.1 then
    Option.bind (g_iin (a1.1, (0 : Int), IntKind.wrap .i64 (a0 - (1 : Int)))) fun r1 =>
    bif r1.1 then
     Option.bind (g_iin (a1.2, (0 : Int), IntKind.wrap .i64 (a0 - (1 : Int)))) fun r2 =>
     bif r2.1 then
      some (decide (a1.1 < a1.2))
     else some false
    else some false
   else some false : Option (Bool)) fun x3 =>
  some (x3, ()) := by kernel_rfl
/- impl.ahead -/
def c_iahead : TC :=
 (.seq (.rg [o1 2 (.a (.t 0)),
   o1 3 (.a (.t 1)),
   o1 4 (.lit [.b] [.bool false])])
 (.seq (.join [⟨4, [.b], false⟩] 16777200 none (.rg [o1 5 (.idx .nil),
   o1 6 (.load 2 [] 0 (.t 5) 1 false),
   o1 7 (.idx .nil),
   o1 8 (.load 3 [] 0 (.t 7) 1 false),
   o1 9 (.data (.bin .lss) [.t 6, .t 8]),
   o1 10 (.copy 9),
   o2 11 (.idx .nil) 5 false,
   o2 12 (.load 2 [] 0 (.t 11) 1 false) 5 false,
   o2 13 (.idx .nil) 5 false,
   o2 14 (.load 3 [] 0 (.t 13) 1 false) 5 false,
   o2 15 (.data (.bin .eql) [.t 12, .t 14]) 5 false,
   o2 16 (.copy 15) 5 false,
   o2 17 (.idx .nil) 11 true,
   o2 18 (.load 2 [] 1 (.t 17) 1 false) 11 true,
   o2 19 (.idx .nil) 11 true,
   o2 20 (.load 3 [] 1 (.t 19) 1 false) 11 true,
   o2 21 (.data (.bin .lss) [.t 18, .t 20]) 11 true,
   ⟨false, [], [], .pick 16 (.t 21) (.c (.bool false)), [22], (some 22), some (5, false)⟩,
   ⟨false, [], [], .pick 10 (.c (.bool true)) (.t 22), [23], (some 23), none⟩,
   o1 4 (.copy 23)]))
 .ret))
def s_iahead : Sig := ⟨[.rd true [.d, .d], .rd true [.d, .d]], (.one false [.d])⟩
noncomputable def E_iahead : TEnv := envOf []
noncomputable def f_iahead (n : Nat) : (Int × Int) × (Int × Int) → Option ((Bool) × Unit) := runFn n E_iahead c_iahead [[.i .i64, .i .i64], [.i .i64, .i .i64]] [.b] [] [4] .no
noncomputable def g_iahead := f_iahead BIG
noncomputable def p_iahead : TSp := ⟨s_iahead, [[.i .i64, .i .i64], [.i .i64, .i .i64]], [.b], [], Ou.j .no, g_iahead⟩
theorem k_iahead : chkW PG E_iahead 118 s_iahead (c_iahead.ht 24) .no = some (c_iahead.wc E_iahead, [4]) := by kernel_rfl
theorem ok_iahead : p_iahead.Ok PG 118 := mkOk (env_nil PG) k_iahead (by kernel_rfl)
theorem e_iahead (n : Nat) (a0 : Int × Int) (a1 : Int × Int) : f_iahead n (a0, a1) =
  Option.bind (bif decide (a0.1 < a1.1) then
    some true
   else bif decide (a0.1 = a1.1) then
    some (decide (a0.2 < a1.2))
   else some false : Option (Bool)) fun x0 =>
  some (x0, ()) := by kernel_rfl
/- impl.edgesOk -/
def c_iedgesOk : TC :=
 (.seq (.rg [o1 4 (.lit [.b] [.bool false])])
 (.seq (.join [] 8589934576 (some [⟨4, [.b], false⟩]) (.seq (.rg [o1 7 (.copy 1),
   o1 8 (.len 7),
   o1 9 (.lit [.i .i64] [.int .i64 (0)])])
 (.block 0 (.loop [⟨9, [.i .i64], false⟩] 8589934192
  (.seq (.rg [o1 10 (.data (.bin .lss) [.t 9, .t 8])])
  (.seq (.cond (.t 10)
   .skip
   (.exit 0))
  (.seq (.join [] 4294965360 (some [⟨4, [.b], false⟩]) (.block 1 (.seq (.rg [o1 11 (.copy 9),
    o1 12 (.index 7 (.t 9)),
    o1 13 (.load 7 [(0, 2)] 0 (.t 12) 2 false),
    ⟨false, [], [], .det 2 (.a (.c [.i .i64, .i .i64] [.int .i64 (0), .int .i64 (0)])), [6, 1000000001], (some 6), none⟩,
    o1 5 (.copy 11),
    o4 1 [6] (.store 6 [] 0 .nil (.t 13))])
  (.seq (.join [⟨31, [.b], false⟩] 4294950912 none (.rg [o1 14 (.copy 0),
    o1 15 (.load 6 [] 0 .nil 2 false),
    o3 16 43 [.t 14, .t 15],
    o1 17 (.data .not [.t 16]),
    o1 18 (.copy 17),
    o2 19 (.copy 5) 4 false,
    o2 20 (.data (.bin .gtr) [.t 19, .c (.int .i64 (0))]) 4 false,
    o2 21 (.copy 20) 4 false,
    o2 22 (.copy 1) 7 true,
    o2 23 (.copy 5) 7 true,
    o2 24 (.data (.bin .sub) [.t 23, .c (.int .i64 (1))]) 7 true,
    o2 25 (.index 22 (.t 24)) 7 true,
    o2 26 (.load 22 [(0, 2)] 0 (.t 25) 2 false) 7 true,
    o2 27 (.load 6 [] 0 .nil 2 false) 7 true,
    ⟨false, [], [], .call 1 118 [.t 26, .t 27] .no, [28], (some 28), some (7, true)⟩,
    o2 29 (.data .not [.t 28]) 7 true,
    ⟨false, [], [], .pick 21 (.t 29) (.c (.bool false)), [30], (some 30), some (4, false)⟩,
    ⟨false, [], [], .pick 18 (.c (.bool true)) (.t 30), [31], (some 31), none⟩]))
  (.cond (.t 31)
   (.seq (.rg [o1 4 (.lit [.b] [.bool false])])
   .ret)
   .skip)))))
  (.rg [o1 32 (.data (.bin .add) [.t 9, .c (.int .i64 (1))]),
    o1 9 (.copy 32)]))))))))
 (.seq (.rg [o1 33 (.copy 1),
   o1 34 (.len 33),
   o1 35 (.data (.bin .leq) [.t 34, .c (.int .i64 (66))]),
   o1 4 (.copy 35)])
 .ret)))
def s_iedgesOk : Sig := ⟨[.rd false [.d], .rd false [.sl (.own none) [.d, .d]]], (.one false [.d])⟩
noncomputable def E_iedgesOk : TEnv := envOf [(43, p_iEdgeOk), (118, p_iahead)]
noncomputable def f_iedgesOk (n : Nat) : Int × (List (Int × Int)) → Option ((Bool) × Unit) := runFn n E_iedgesOk c_iedgesOk [[.i .i64], [.sl [.i .i64, .i .i64]]] [.b] [] [4] .no
noncomputable def g_iedgesOk := f_iedgesOk BIG
noncomputable def p_iedgesOk : TSp := ⟨s_iedgesOk, [[.i .i64], [.sl [.i .i64, .i .i64]]], [.b], [], Ou.j .no, g_iedgesOk⟩
theorem k_iedgesOk : chkW PG E_iedgesOk 71 s_iedgesOk (c_iedgesOk.ht 36) .no = some (c_iedgesOk.wc E_iedgesOk, [4]) := by kernel_rfl
theorem ok_iedgesOk : p_iedgesOk.Ok PG 71 := mkOk (env_cons ok_iEdgeOk (env_cons ok_iahead (env_nil PG))) k_iedgesOk (by kernel_rfl)
theorem e_iedgesOk (n : Nat) (a0 : Int) (a1 : List (Int × Int)) : f_iedgesOk n (a0, a1) =
  Option.bind (loopT n (X := Int) (B := (Unit) ⊕ (Bool)) (fun self1 x0 =>
    bif decide (x0 < (a1.length : Int)) then
     Option.bind (bnd a1.length x0 fun n2 =>
      Option.bind a1[n2]? fun y3 =>
      Option.bind (Option.bind (g_iEdgeOk (a0, y3)) fun r4 =>
       bif !r4.1 then
        some true
       else bif decide ((0 : Int) < x0) then
        bnd a1.length (IntKind.wrap .i64 (x0 - (1 : Int))) fun n5 =>
        Option.bind a1[n5]? fun y6 =>
        Option.bind (g_iahead (y6, y3)) fun r7 =>
        some !r7.1
       else some false : Option (Bool)) fun x8 =>
      bif x8 then
       some (Sum.inr false)
      else some (Sum.inl ()) : Option ((Unit) ⊕ (Bool))) fun y => match y with
     | .inl x9 =>
      self1 (IntKind.wrap .i64 (x0 + (1 : Int)))
     | .inr x9 =>
      some (Sum.inr x9)
    else some (Sum.inl ())) (0 : Int) : Option ((Unit) ⊕ (Bool))) fun y => match y with
  | .inl x10 =>
   some (decide ((a1.length : Int) ≤ (66 : Int)), ())
  | .inr x10 =>
   some (x10, ()) := by kernel_rfl
/- impl.OrderOk -/
def c_iOrderOk : TC :=
 (.seq (.rg [o1 3 (.a (.t 1)),
   o1 4 (.lit [.b] [.bool false])])
 (.seq (.seq (.join [⟨30, [.b], false⟩] 2147483616 none (.rg [o1 5 (.copy 0),
   o3 6 42 [.t 5, .c [.i .i64] [.int .i64 (1)], .c [.i .i64] [.int .i64 (12)]],
   o1 7 (.data .not [.t 6]),
   o1 8 (.copy 7),
   o2 9 (.idx .nil) 3 false,
   o2 10 (.load 3 [] 0 (.t 9) 1 false) 3 false,
   ⟨false, [], [], .call 1 42 [.t 10, .c [.i .i64] [.int .i64 (1)], .c [.i .i64] [.int .i64 (100000)]] .no, [11], (some 11), some (3, false)⟩,
   o2 12 (.data .not [.t 11]) 3 false,
   ⟨false, [], [], .pick 8 (.c (.bool true)) (.t 12), [13], (some 13), none⟩,
   o1 14 (.copy 13),
   o2 15 (.copy 0) 9 false,
   o2 16 (.idx .nil) 9 false,
   o2 17 (.load 3 [] 2 (.t 16) 1 false) 9 false,
   ⟨false, [], [], .call 1 71 [.t 15, .t 17] .no, [18], (some 18), some (9, false)⟩,
   o2 19 (.data .not [.t 18]) 9 false,
   ⟨false, [], [], .pick 14 (.c (.bool true)) (.t 19), [20], (some 20), none⟩,
   o1 21 (.copy 20),
   o2 22 (.idx .nil) 16 false,
   o2 23 (.load 3 [] 3 (.t 22) 1 false) 16 false,
   o2 24 (.data (.bin .neq) [.t 23, .c (.int .i64 (0))]) 16 false,
   o2 25 (.copy 24) 16 false,
   o2 26 (.idx .nil) 20 true,
   o2 27 (.load 3 [] 1 (.t 26) 1 false) 20 true,
   o2 28 (.data (.bin .neq) [.t 27, .c (.int .i64 (3))]) 20 true,
   ⟨false, [], [], .pick 25 (.t 28) (.c (.bool false)), [29], (some 29), some (16, false)⟩,
   ⟨false, [], [], .pick 21 (.c (.bool true)) (.t 29), [30], (some 30), none⟩]))
 (.cond (.t 30)
  (.seq (.rg [o1 4 (.lit [.b] [.bool false])])
  .ret)
  .skip))
 (.seq (.join [] 576460750155939856 (some [⟨4, [.b], false⟩]) (.seq (.rg [o1 31 (.idx .nil),
   o1 32 (.load 3 [] 1 (.t 31) 1 false)])
 (.block 0 (.seq (.join [⟨33, [.b], false⟩] 60129542144 none (.seq (.rg [o1 34 (.data (.bin .eql) [.t 32, .c (.int .i64 (1))]),
   o1 33 (.copy 34)])
 (.cond (.t 33)
  .skip
  (.rg [o1 35 (.data (.bin .eql) [.t 32, .c (.int .i64 (2))]),
    o1 33 (.copy 35)]))))
 (.cond (.t 33)
  (.seq (.rg [o1 36 (.idx .nil),
    o1 37 (.load 3 [] 2 (.t 36) 1 false),
    o1 38 (.len 37),
    o1 39 (.data (.bin .eql) [.t 38, .c (.int .i64 (1))]),
    o1 4 (.copy 39)])
  .ret)
  (.seq (.rg [o1 41 (.data (.bin .eql) [.t 32, .c (.int .i64 (3))]),
    o1 40 (.copy 41)])
  (.cond (.t 40)
   (.seq (.join [⟨4, [.b], false⟩] 9002801208229904 none (.rg [o1 42 (.idx .nil),
     o1 43 (.load 3 [] 2 (.t 42) 1 false),
     o1 44 (.len 43),
     o1 45 (.data (.bin .eql) [.t 44, .c (.int .i64 (0))]),
     o1 46 (.copy 45),
     o2 47 (.idx .nil) 4 true,
     o2 48 (.load 3 [] 3 (.t 47) 1 false) 4 true,
     o2 49 (.copy 0) 4 true,
     o2 50 (.data (.bin .sub) [.t 49, .c (.int .i64 (1))]) 4 true,
     ⟨false, [], [], .call 1 42 [.t 48, .c [.i .i64] [.int .i64 (0)], .t 50] .no, [51], (some 51), some (4, true)⟩,
     ⟨false, [], [], .pick 46 (.t 51) (.c (.bool false)), [52], (some 52), none⟩,
     o1 4 (.copy 52)]))
   .ret)
   (.seq (.rg [o1 54 (.data (.bin .eql) [.t 32, .c (.int .i64 (4))]),
     o1 53 (.copy 54)])
   (.cond (.t 53)
    (.seq (.rg [o1 55 (.idx .nil),
      o1 56 (.load 3 [] 2 (.t 55) 1 false),
      o1 57 (.len 56),
      o1 58 (.data (.bin .gtr) [.t 57, .c (.int .i64 (0))]),
      o1 4 (.copy 58)])
    .ret)
    .skip)))))))))
 (.seq (.rg [o1 4 (.lit [.b] [.bool false])])
 .ret))))
def s_iOrderOk : Sig := ⟨[.rd false [.d], .rd true [.d, .d, .sl (.own none) [.d, .d], .d]], (.one false [.d])⟩
noncomputable def E_iOrderOk : TEnv := envOf [(42, p_iin), (71, p_iedgesOk)]
noncomputable def f_iOrderOk (n : Nat) : Int × (Int × Int × List (Int × Int) × Int) → Option ((Bool) × Unit) := runFn n E_iOrderOk c_iOrderOk [[.i .i64], [.i .i64, .i .i64, .sl [.i .i64, .i .i64], .i .i64]] [.b] [] [4] .no
noncomputable def g_iOrderOk := f_iOrderOk BIG
noncomputable def p_iOrderOk : TSp := ⟨s_iOrderOk, [[.i .i64], [.i .i64, .i .i64, .sl [.i .i64, .i .i64], .i .i64]], [.b], [], Ou.j .no, g_iOrderOk⟩
theorem k_iOrderOk : chkW PG E_iOrderOk 23 s_iOrderOk (c_iOrderOk.ht 59) .no = some (c_iOrderOk.wc E_iOrderOk, [4]) := by kernel_rfl
theorem ok_iOrderOk : p_iOrderOk.Ok PG 23 := mkOk (env_cons ok_iin (env_cons ok_iedgesOk (env_nil PG))) k_iOrderOk (by kernel_rfl)
theorem e_iOrderOk (n : Nat) (a0 : Int) (a1 : Int × Int × List (Int × Int) × Int) : f_iOrderOk n (a0, a1) =
  Option.bind (Option.bind (g_iin (a0, (1 : Int), (12 : Int))) fun r0 =>
   bif !r0.1 then
    some true
   else Option.bind (g_iin (a1.1, (1 : Int), (100000 : Int))) fun r1 =>
   bif !r1.1 then
    some true
   else Option.bind (g_iedgesOk (a0, a1.2.2.1)) fun r2 =>
   bif !r2.1 then
    some true
   else bif !decide (a1.2.2.2 = (0 : Int)) then
    some (!decide (a1.2.1 = (3 : Int)))
   else some false : Option (Bool)) fun x3 =>
  bif x3 then
   some (false, ())
  else Option.bind (Option.bind (bif decide (a1.2.1 = (1 : Int)) then
     some true
    else some (decide (a1.2.1 = (2 : Int))) : Option (Bool)) fun x4 =>
   bif x4 then
    some (Sum.inr (decide ((a1.2.2.1.length : Int) = (1 : Int))))
   else bif decide (a1.2.1 = (3 : Int)) then
    Option.bind (bif decide ((a1.2.2.1.length : Int) = (0 : Int)) then
      Option.bind (g_iin (a1.2.2.2, (0 : Int), IntKind.wrap .i64 (a0 - (1 : Int)))) fun r5 =>
      some r5.1
     else some false : Option (Bool)) fun x6 =>
    some (Sum.inr x6)
   else bif decide (a1.2.1 = (4 : Int)) then
    some (Sum.inr (decide ((0 : Int) < (a1.2.2.1.length : Int))))
   else some (Sum.inl ()) : Option ((Unit) ⊕ (Bool))) fun y => match y with
  | .inl x7 =>
   some (false, ())
  | .inr x7 =>
   some (x7, ()) := by kernel_rfl
/- impl.VarText -/
def c_iVarText : TC :=
 (.seq (.rg [o1 2 (.lit [.s] [.string ⟨#[]⟩]),
   o1 3 (.lit [.b] [.bool false])])
 (.seq (.seq (.rg [o1 5 (.copy 0),
   o3 6 42 [.t 5, .c [.i .i64] [.int .i64 (0)], .c [.i .i64] [.int .i64 (1000000000)]],
   o1 7 (.data .not [.t 6])])
 (.cond (.t 7)
  (.seq (.rg [o1 2 (.lit [.s] [.string ⟨#[]⟩]),
    o1 3 (.lit [.b] [.bool false])])
  .ret)
  .skip))
 (.seq (.rg [o1 4 (.lit [.sl [.i .u8]] [.slice none 0 0])])
 (.seq (.join [⟨4, [.sl [.i .u8]], false⟩, ⟨0, [.i .i64], false⟩] 524049 none (.block 0 (.loop [⟨4, [.sl [.i .u8]], false⟩, ⟨0, [.i .i64], false⟩] 524049
  (.seq (.seq (.rg [o1 8 (.copy 0),
    o1 9 (.data (.bin .gtr) [.t 8, .c (.int .i64 (127))])])
  (.cond (.t 9)
   .skip
   (.exit 0)))
  (.block 1 (.seq (.rg [⟨false, [], [], .det 2 (.copy 4), [10, 4], (some 10), none⟩,
    o1 11 (.copy 0),
    o1 12 (.data (.bin .rem) [.t 11, .c (.int .i64 (128))]),
    o1 13 (.data (.bin .add) [.t 12, .c (.int .i64 (128))]),
    o1 14 (.data (.conv .u8) [.t 13]),
    o1 15 (.sli [.i .u8] [.t 14]),
    ⟨false, [], [], .det 2 (.app (some 10) 15), [16, 10], (some 16), none⟩,
    ⟨false, [], [], .det 2 (.copy 16), [4, 16], (some 4), none⟩])
  (.rg [o1 17 (.copy 0),
    o1 18 (.data (.bin .quo) [.t 17, .c (.int .i64 (128))]),
    o1 0 (.copy 18)])))))))
 (.seq (.rg [⟨false, [], [], .det 2 (.copy 4), [19, 4], (some 19), none⟩,
   o1 20 (.copy 0),
   o1 21 (.data (.conv .u8) [.t 20]),
   o1 22 (.sli [.i .u8] [.t 21]),
   ⟨false, [], [], .det 2 (.app (some 19) 22), [23, 19], (some 23), none⟩,
   o1 24 (.bytes 23),
   o1 2 (.copy 24),
   o1 3 (.lit [.b] [.bool true])])
 .ret)))))
def s_iVarText : Sig := ⟨[.rd false [.d]], (.tup [(false, 1), (false, 1)] [.d, .d])⟩
noncomputable def E_iVarText : TEnv := envOf [(42, p_iin)]
noncomputable def f_iVarText (n : Nat) : Int → Option ((ByteArray × Bool) × Unit) := runFn n E_iVarText c_iVarText [[.i .i64]] [.s, .b] [] [2, 3] .no
noncomputable def g_iVarText := f_iVarText BIG
noncomputable def p_iVarText : TSp := ⟨s_iVarText, [[.i .i64]], [.s, .b], [], Ou.j .no, g_iVarText⟩
theorem k_iVarText : chkW PG E_iVarText 65 s_iVarText (c_iVarText.ht 25) .no = some (c_iVarText.wc E_iVarText, [2, 3]) := by kernel_rfl
theorem ok_iVarText : p_iVarText.Ok PG 65 := mkOk (env_cons ok_iin (env_nil PG)) k_iVarText (by kernel_rfl)
theorem e_iVarText (n : Nat) (a0 : Int) : f_iVarText n a0 =
  Option.bind (g_iin (a0, (0 : Int), (1000000000 : Int))) fun r0 =>
  bif !r0.1 then
   some (((ByteArray.mk #[]), false), ())
  else Option.bind (loopT n (X := (List (Int)) × Int) (B := (List (Int)) × Int) (fun self2 x1 =>
    bif decide ((127 : Int) < x1.2) then
     bif decide ((128 : Int) = 0) then
      none
     else bif decide (x1.1.length + ([IntKind.wrap .u8 (IntKind.wrap .i64 ((Int.tmod x1.2 (128 : Int)) + (128 : Int)))]).length ≤ 4294967296) then
      bif decide ((128 : Int) = 0) then
       none
      else self2 (x1.1 ++ ([IntKind.wrap .u8 (IntKind.wrap .i64 ((Int.tmod x1.2 (128 : Int)) + (128 : Int)))]), IntKind.wrap .i64 (Int.tdiv x1.2 (128 : Int)))
     else none
    else some (x1.1, x1.2)) ([], a0) : Option ((List (Int)) × Int)) fun x3 =>
  bif decide (x3.1.length + ([IntKind.wrap .u8 (x3.2)]).length ≤ 4294967296) then
   some ((bytesStr (x3.1 ++ ([IntKind.wrap .u8 (x3.2)])), true), ())
  else none := by kernel_rfl
/- impl.edgesText -/
def c_iedgesText : TC :=
 (.seq (.rg [o1 2 (.lit [.s] [.string ⟨#[]⟩])])
 (.seq (.rg [o1 8 (.copy 0),
   o1 9 (.len 8),
   o3 10 65 [.t 9],
   ⟨false, [], [], .det 2 (.copy 10), [7, 10], (some 7), none⟩,
   o1 11 (.ext 7 0 1),
   o1 12 (.ext 7 1 1),
   o1 3 (.copy 11),
   o1 4 (.copy 12)])
 (.seq (.join [⟨3, [.s], false⟩] 1073733704 none (.seq (.rg [o1 13 (.copy 0),
   o1 14 (.len 13),
   o1 15 (.lit [.i .i64] [.int .i64 (0)])])
 (.block 0 (.loop [⟨3, [.s], false⟩, ⟨15, [.i .i64], false⟩] 1073709128
  (.seq (.rg [o1 16 (.data (.bin .lss) [.t 15, .t 14])])
  (.seq (.cond (.t 16)
   .skip
   (.exit 0))
  (.seq (.block 1 (.seq (.rg [o1 17 (.index 13 (.t 15)),
    o1 18 (.load 13 [(0, 2)] 0 (.t 17) 2 false),
    ⟨false, [], [], .det 2 (.a (.c [.i .i64, .i .i64] [.int .i64 (0), .int .i64 (0)])), [6, 1000000001], (some 6), none⟩,
    o4 1 [6] (.store 6 [] 0 .nil (.t 18))])
  (.rg [o1 19 (.copy 3),
    o1 20 (.idx .nil),
    o1 21 (.load 6 [] 0 (.t 20) 1 false),
    o1 22 (.data (.conv .u8) [.t 21]),
    o1 23 (.idx .nil),
    o1 24 (.load 6 [] 1 (.t 23) 1 false),
    o1 25 (.data (.conv .u8) [.t 24]),
    o1 26 (.sli [.i .u8] [.t 22, .t 25]),
    o1 27 (.bytes 26),
    o1 28 (.data (.bin .add) [.t 19, .t 27]),
    o1 3 (.copy 28)])))
  (.rg [o1 29 (.data (.bin .add) [.t 15, .c (.int .i64 (1))]),
    o1 15 (.copy 29)]))))))))
 (.seq (.rg [o1 30 (.copy 3),
   o1 2 (.copy 30)])
 .ret))))
def s_iedgesText : Sig := ⟨[.rd false [.sl (.own none) [.d, .d]]], (.one false [.d])⟩
noncomputable def E_iedgesText : TEnv := envOf [(65, p_iVarText)]
noncomputable def f_iedgesText (n : Nat) : (List (Int × Int)) → Option ((ByteArray) × Unit) := runFn n E_iedgesText c_iedgesText [[.sl [.i .i64, .i .i64]]] [.s] [] [2] .no
noncomputable def g_iedgesText := f_iedgesText BIG
noncomputable def p_iedgesText : TSp := ⟨s_iedgesText, [[.sl [.i .i64, .i .i64]]], [.s], [], Ou.j .no, g_iedgesText⟩
theorem k_iedgesText : chkW PG E_iedgesText 66 s_iedgesText (c_iedgesText.ht 31) .no = some (c_iedgesText.wc E_iedgesText, [2]) := by kernel_rfl
theorem ok_iedgesText : p_iedgesText.Ok PG 66 := mkOk (env_cons ok_iVarText (env_nil PG)) k_iedgesText (by kernel_rfl)
theorem e_iedgesText (n : Nat) (a0 : List (Int × Int)) : f_iedgesText n a0 =
  Option.bind (g_iVarText (a0.length : Int)) fun r0 =>
  Option.bind (loopT n (X := ByteArray × Int) (B := ByteArray) (fun self2 x1 =>
    bif decide (x1.2 < (a0.length : Int)) then
     bnd a0.length x1.2 fun n3 =>
     Option.bind a0[n3]? fun y4 =>
     bif decide (x1.1.size + (bytesStr ([IntKind.wrap .u8 (y4.1), IntKind.wrap .u8 (y4.2)])).size ≤ 4611686018427387904) then
      self2 (x1.1 ++ (bytesStr ([IntKind.wrap .u8 (y4.1), IntKind.wrap .u8 (y4.2)])), IntKind.wrap .i64 (x1.2 + (1 : Int)))
     else none
    else some x1.1) (r0.1.1, (0 : Int)) : Option (ByteArray)) fun x5 =>
  some (x5, ()) := by kernel_rfl
/- impl.OrderText -/
def c_iOrderText : TC :=
 (.seq (.rg [o1 3 (.a (.t 1)),
   o1 4 (.lit [.s] [.string ⟨#[]⟩]),
   o1 5 (.lit [.b] [.bool false])])
 (.seq (.seq (.rg [o1 10 (.copy 0),
   o1 11 (.load 3 [] 0 .nil 4 false),
   o3 12 23 [.t 10, .t 11],
   o1 13 (.data .not [.t 12])])
 (.cond (.t 13)
  (.seq (.rg [o1 4 (.lit [.s] [.string ⟨#[]⟩]),
    o1 5 (.lit [.b] [.bool false])])
  .ret)
  .skip))
 (.seq (.rg [o1 15 (.idx .nil),
   o1 16 (.load 3 [] 0 (.t 15) 1 false),
   o3 17 65 [.t 16],
   ⟨false, [], [], .det 2 (.copy 17), [14, 17], (some 14), none⟩,
   o1 18 (.ext 14 0 1),
   o1 19 (.ext 14 1 1),
   o1 6 (.copy 18),
   o1 7 (.copy 19)])
 (.seq (.rg [o1 21 (.idx .nil),
   o1 22 (.load 3 [] 3 (.t 21) 1 false),
   o3 23 65 [.t 22],
   ⟨false, [], [], .det 2 (.copy 23), [20, 23], (some 20), none⟩,
   o1 24 (.ext 20 0 1),
   o1 25 (.ext 20 1 1),
   o1 8 (.copy 24),
   o1 9 (.copy 25)])
 (.seq (.rg [o1 26 (.copy 6),
   o1 33 (.copy 8),
   o1 27 (.idx .nil),
   o1 28 (.load 3 [] 1 (.t 27) 1 false),
   o1 29 (.data (.conv .u8) [.t 28]),
   o1 30 (.sli [.i .u8] [.t 29]),
   o1 31 (.bytes 30),
   o1 32 (.data (.bin .add) [.t 26, .t 31]),
   o1 34 (.data (.bin .add) [.t 32, .t 33]),
   o1 35 (.idx .nil),
   o1 36 (.load 3 [] 2 (.t 35) 1 false),
   o3 37 66 [.t 36],
   o1 38 (.data (.bin .add) [.t 34, .t 37]),
   o1 4 (.copy 38),
   o1 5 (.lit [.b] [.bool true])])
 .ret)))))
def s_iOrderText : Sig := ⟨[.rd false [.d], .rd true [.d, .d, .sl (.own none) [.d, .d], .d]], (.tup [(false, 1), (false, 1)] [.d, .d])⟩
noncomputable def E_iOrderText : TEnv := envOf [(23, p_iOrderOk), (65, p_iVarText), (66, p_iedgesText)]
noncomputable def f_iOrderText (n : Nat) : Int × (Int × Int × List (Int × Int) × Int) → Option ((ByteArray × Bool) × Unit) := runFn n E_iOrderText c_iOrderText [[.i .i64], [.i .i64, .i .i64, .sl [.i .i64, .i .i64], .i .i64]] [.s, .b] [] [4, 5] .no
noncomputable def g_iOrderText := f_iOrderText BIG
noncomputable def p_iOrderText : TSp := ⟨s_iOrderText, [[.i .i64], [.i .i64, .i .i64, .sl [.i .i64, .i .i64], .i .i64]], [.s, .b], [], Ou.j .no, g_iOrderText⟩
theorem k_iOrderText : chkW PG E_iOrderText 20 s_iOrderText (c_iOrderText.ht 39) .no = some (c_iOrderText.wc E_iOrderText, [4, 5]) := by kernel_rfl
theorem ok_iOrderText : p_iOrderText.Ok PG 20 := mkOk (env_cons ok_iOrderOk (env_cons ok_iVarText (env_cons ok_iedgesText (env_nil PG)))) k_iOrderText (by kernel_rfl)
theorem e_iOrderText (n : Nat) (a0 : Int) (a1 : Int × Int × List (Int × Int) × Int) : f_iOrderText n (a0, a1) =
  Option.bind (g_iOrderOk (a0, a1)) fun r0 =>
  bif !r0.1 then
   some (((ByteArray.mk #[]), false), ())
  else Option.bind (g_iVarText a1.1) fun r1 =>
  Option.bind (g_iVarText a1.2.2.2) fun r2 =>
  bif decide (r1.1.1.size + (bytesStr ([IntKind.wrap .u8 (a1.2.1)])).size ≤ 4611686018427387904) then
   bif decide ((r1.1.1 ++ (bytesStr ([IntKind.wrap .u8 (a1.2.1)]))).size + r2.1.1.size ≤ 4611686018427387904) then
    Option.bind (g_iedgesText a1.2.2.1) fun r3 =>
    bif decide (((r1.1.1 ++ (bytesStr ([IntKind.wrap .u8 (a1.2.1)]))) ++ r2.1.1).size + r3.1.size ≤ 4611686018427387904) then
     some ((((r1.1.1 ++ (bytesStr ([IntKind.wrap .u8 (a1.2.1)]))) ++ r2.1.1) ++ r3.1, true), ())
    else none
   else none
  else none := by kernel_rfl
/- impl.ReadVar -/
def c_iReadVar : TC :=
 (.seq (.rg [o1 4 (.lit [.i .i64] [.int .i64 (0)]),
   o1 5 (.lit [.i .i64] [.int .i64 (0)]),
   o1 6 (.lit [.b] [.bool false])])
 (.seq (.seq (.rg [o1 11 (.copy 1),
   o1 12 (.copy 0),
   o1 13 (.data .slen [.t 12]),
   o3 14 42 [.t 11, .c [.i .i64] [.int .i64 (0)], .t 13],
   o1 15 (.data .not [.t 14])])
 (.cond (.t 15)
  (.seq (.rg [o1 4 (.lit [.i .i64] [.int .i64 (0)]),
    o1 5 (.lit [.i .i64] [.int .i64 (0)]),
    o1 6 (.lit [.b] [.bool false])])
  .ret)
  .skip))
 (.seq (.rg [o1 7 (.lit [.i .i64] [.int .i64 (0)]),
   o1 8 (.lit [.i .i64] [.int .i64 (1)])])
 (.seq (.join [] 144115188075792368 (some [⟨4, [.i .i64], false⟩, ⟨5, [.i .i64], false⟩, ⟨6, [.b], false⟩]) (.seq (.rg [o1 16 (.copy 1),
   o1 9 (.copy 16)])
 (.block 0 (.loop [⟨7, [.i .i64], false⟩, ⟨8, [.i .i64], false⟩, ⟨9, [.i .i64], false⟩] 144115188075726832
  (.seq (.seq (.join [⟨26, [.b], false⟩] 134086656 none (.rg [o1 17 (.copy 9),
    o1 18 (.copy 0),
    o1 19 (.data .slen [.t 18]),
    o1 20 (.data (.bin .lss) [.t 17, .t 19]),
    o1 21 (.copy 20),
    o2 22 (.copy 9) 4 true,
    o2 23 (.copy 1) 4 true,
    o2 24 (.data (.bin .add) [.t 23, .c (.int .i64 (5))]) 4 true,
    o2 25 (.data (.bin .lss) [.t 22, .t 24]) 4 true,
    ⟨false, [], [], .pick 21 (.t 25) (.c (.bool false)), [26], (some 26), none⟩]))
  (.cond (.t 26)
   .skip
   (.exit 0)))
  (.seq (.block 1 (.seq (.rg [o1 29 (.copy 0),
    o1 30 (.copy 9),
    o1 31 (.data .sidx [.t 29, .t 30]),
    o1 32 (.data (.conv .i64) [.t 31]),
    o1 10 (.copy 32)])
  (.seq (.rg [o1 33 (.copy 7),
    o1 34 (.copy 10),
    o1 35 (.data (.bin .rem) [.t 34, .c (.int .i64 (128))]),
    o1 36 (.copy 8),
    o1 37 (.data (.bin .mul) [.t 35, .t 36]),
    o1 38 (.data (.bin .add) [.t 33, .t 37]),
    o1 7 (.copy 38)])
  (.seq (.rg [o1 39 (.copy 8),
    o1 40 (.data (.bin .mul) [.t 39, .c (.int .i64 (128))]),
    o1 8 (.copy 40)])
  (.seq (.rg [o1 41 (.copy 10),
    o1 42 (.data (.bin .lss) [.t 41, .c (.int .i64 (128))])])
  (.cond (.t 42)
   (.seq (.seq (.join [⟨53, [.b], false⟩] 18005602416459776 none (.rg [o1 43 (.copy 10),
     o1 44 (.data (.bin .eql) [.t 43, .c (.int .i64 (0))]),
     o1 45 (.copy 44),
     o2 46 (.copy 9) 2 true,
     o2 47 (.copy 1) 2 true,
     o2 48 (.data (.bin .gtr) [.t 46, .t 47]) 2 true,
     ⟨false, [], [], .pick 45 (.t 48) (.c (.bool false)), [49], (some 49), none⟩,
     o1 50 (.copy 49),
     o2 51 (.copy 7) 7 false,
     o2 52 (.data (.bin .gtr) [.t 51, .c (.int .i64 (1000000000))]) 7 false,
     ⟨false, [], [], .pick 50 (.c (.bool true)) (.t 52), [53], (some 53), none⟩]))
   (.cond (.t 53)
    (.exit 0)
    .skip))
   (.seq (.rg [o1 54 (.copy 7),
     o1 55 (.copy 9),
     o1 56 (.data (.bin .add) [.t 55, .c (.int .i64 (1))]),
     o1 4 (.copy 54),
     o1 5 (.copy 56),
     o1 6 (.lit [.b] [.bool true])])
   .ret))
   .skip))))))
  (.rg [o1 27 (.copy 9),
    o1 28 (.data (.bin .add) [.t 27, .c (.int .i64 (1))]),
    o1 9 (.copy 28)])))))))
 (.seq (.rg [o1 4 (.lit [.i .i64] [.int .i64 (0)]),
   o1 5 (.lit [.i .i64] [.int .i64 (0)]),
   o1 6 (.lit [.b] [.bool false])])
 .ret)))))
def s_iReadVar : Sig := ⟨[.rd false [.d], .rd false [.d]], (.tup [(false, 1), (false, 1), (false, 1)] [.d, .d, .d])⟩
noncomputable def E_iReadVar : TEnv := envOf [(42, p_iin)]
noncomputable def f_iReadVar (n : Nat) : ByteArray × Int → Option ((Int × Int × Bool) × Unit) := runFn n E_iReadVar c_iReadVar [[.s], [.i .i64]] [.i .i64, .i .i64, .b] [] [4, 5, 6] .no
noncomputable def g_iReadVar := f_iReadVar BIG
noncomputable def p_iReadVar : TSp := ⟨s_iReadVar, [[.s], [.i .i64]], [.i .i64, .i .i64, .b], [], Ou.j .no, g_iReadVar⟩
theorem k_iReadVar : chkW PG E_iReadVar 117 s_iReadVar (c_iReadVar.ht 57) .no = some (c_iReadVar.wc E_iReadVar, [4, 5, 6]) := by kernel_rfl
theorem ok_iReadVar : p_iReadVar.Ok PG 117 := mkOk (env_cons ok_iin (env_nil PG)) k_iReadVar (by kernel_rfl)
theorem e_iReadVar (n : Nat) (a0 : ByteArray) (a1 : Int) : f_iReadVar n (a0, a1) =
  Option.bind (g_iin (a1, (0 : Int), (a0.size : Int))) fun r0 =>
  bif !r0.1 then
   some (((0 : Int), (0 : Int), false), ())
  else Option.bind (loopT n (X := Int × Int × Int) (B := (Unit) ⊕ (Int × Int × Bool)) (fun self2 x1 =>
    Option.bind (bif decide (x1.2.2 < (a0.size : Int)) then
      some (decide (x1.2.2 < (IntKind.wrap .i64 (a1 + (5 : Int)))))
     else some false : Option (Bool)) fun x3 =>
    bif x3 then
     bnd a0.size x1.2.2 fun n4 => Option.bind a0[n4]? fun b5 =>
     bif decide ((128 : Int) = 0) then
      none
     else bif decide ((IntKind.wrap .i64 ((b5.toNat : Int))) < (128 : Int)) then
      Option.bind (bif decide ((IntKind.wrap .i64 ((b5.toNat : Int))) = (0 : Int)) then
        bif decide (a1 < x1.2.2) then
         some true
        else some (decide ((1000000000 : Int) < (IntKind.wrap .i64 (x1.1 + (IntKind.wrap .i64 ((Int.tmod (IntKind.wrap .i64 ((b5.toNat : Int))) (128 : Int)) * x1.2.1))))))
       else some (decide ((1000000000 : Int) < (IntKind.wrap .i64 (x1.1 + (IntKind.wrap .i64 ((Int.tmod (IntKind.wrap .i64 ((b5.toNat : Int))) (128 : Int)) * x1.2.1)))))) : Option (Bool)) fun x6 =>
      bif x6 then
       some (Sum.inl ())
      else some (Sum.inr (IntKind.wrap .i64 (x1.1 + (IntKind.wrap .i64 ((Int.tmod (IntKind.wrap .i64 ((b5.toNat : Int))) (128 : Int)) * x1.2.1))), IntKind.wrap .i64 (x1.2.2 + (1 : Int)), true))
     else self2 (IntKind.wrap .i64 (x1.1 + (IntKind.wrap .i64 ((Int.tmod (IntKind.wrap .i64 ((b5.toNat : Int))) (128 : Int)) * x1.2.1))), IntKind.wrap .i64 (x1.2.1 * (128 : Int)), IntKind.wrap .i64 (x1.2.2 + (1 : Int)))
    else some (Sum.inl ())) ((0 : Int), (1 : Int), a1) : Option ((Unit) ⊕ (Int × Int × Bool))) fun y => match y with
  | .inl x7 =>
   some (((0 : Int), (0 : Int), false), ())
  | .inr x7 =>
   some (x7, ()) := by kernel_rfl
/- impl.reader).num -/
def c_ireader_num : TC :=
 (.seq (.rg [o1 2 (.lit [.i .i64] [.int .i64 (0)])])
 (.seq (.rg [o1 7 (.p0),
   o1 11 (.p0),
   o1 8 (.same 7),
   o1 9 (.idx (.t 8)),
   o1 10 (.load 0 [] 0 (.t 9) 1 false),
   o1 12 (.same 11),
   o1 13 (.idx (.t 12)),
   o1 14 (.load 0 [] 1 (.t 13) 1 false),
   o3 15 117 [.t 10, .t 14],
   ⟨false, [], [], .det 2 (.copy 15), [6, 15], (some 6), none⟩,
   o1 16 (.ext 6 0 1),
   o1 17 (.ext 6 1 1),
   o1 18 (.ext 6 2 1),
   o1 3 (.copy 16),
   o1 4 (.copy 17),
   o1 5 (.copy 18)])
 (.seq (.seq (.join [⟨26, [.b], false⟩] 133693440 none (.rg [o1 19 (.p0),
   o1 20 (.same 19),
   o1 21 (.idx (.t 20)),
   o1 22 (.load 0 [] 2 (.t 21) 1 false),
   o1 23 (.copy 22),
   o2 24 (.copy 5) 4 false,
   o2 25 (.data .not [.t 24]) 4 false,
   ⟨false, [], [], .pick 23 (.c (.bool true)) (.t 25), [26], (some 26), none⟩]))
 (.cond (.t 26)
  (.seq (.rg [o1 27 (.p0),
    o1 28 (.same 27),
    o1 29 (.idx (.t 28)),
    o4 1 [0] (.store 0 [] 2 (.t 29) (.c [.b] [.bool true]))])
  (.seq (.rg [o1 2 (.lit [.i .i64] [.int .i64 (0)])])
  .ret))
  .skip))
 (.seq (.rg [o1 30 (.p0),
   o1 31 (.copy 4),
   o1 32 (.same 30),
   o1 33 (.idx (.t 32)),
   o4 1 [0] (.store 0 [] 1 (.t 33) (.t 31))])
 (.seq (.rg [o1 34 (.copy 3),
   o1 2 (.copy 34)])
 .ret)))))
def s_ireader_num : Sig := ⟨[.mp [.d, .d, .d]], (.one false [.d])⟩
noncomputable def E_ireader_num : TEnv := envOf [(117, p_iReadVar)]
noncomputable def f_ireader_num (n : Nat) : (ByteArray × Int × Bool) → Option ((Int) × ByteArray × Int × Bool) := runFn n E_ireader_num c_ireader_num [[.s, .i .i64, .b]] [.i .i64] [.s, .i .i64, .b] [2] (.mp 0)
noncomputable def g_ireader_num := f_ireader_num BIG
noncomputable def p_ireader_num : TSp := ⟨s_ireader_num, [[.s, .i .i64, .b]], [.i .i64], [.s, .i .i64, .b], Ou.j (.mp 0), g_ireader_num⟩
theorem k_ireader_num : chkW PG E_ireader_num 67 s_ireader_num (c_ireader_num.ht 35) (.mp 0) = some (c_ireader_num.wc E_ireader_num, [2]) := by kernel_rfl
theorem ok_ireader_num : p_ireader_num.Ok PG 67 := mkOk (env_cons ok_iReadVar (env_nil PG)) k_ireader_num (by kernel_rfl)
theorem e_ireader_num (n : Nat) (a0 : ByteArray × Int × Bool) : f_ireader_num n a0 =
  Option.bind (g_iReadVar (a0.1, a0.2.1)) fun r0 =>
  Option.bind (bif a0.2.2 then
    some true
   else some !r0.1.2.2 : Option (Bool)) fun x1 =>
  bif x1 then
   some ((0 : Int), (a0.1, a0.2.1, true))
  else some (r0.1.1, (a0.1, r0.1.2.1, a0.2.2)) := by kernel_rfl
/- impl.reader).one -/
def c_ireader_one : TC :=
 (.seq (.rg [o1 2 (.lit [.i .i64] [.int .i64 (0)])])
 (.seq (.seq (.join [⟨18, [.b], false⟩] 524280 none (.rg [o1 3 (.p0),
   o1 4 (.same 3),
   o1 5 (.idx (.t 4)),
   o1 6 (.load 0 [] 2 (.t 5) 1 false),
   o1 7 (.copy 6),
   o2 8 (.p0) 4 false,
   o2 9 (.same 8) 4 false,
   o2 10 (.idx (.t 9)) 4 false,
   o2 11 (.load 0 [] 1 (.t 10) 1 false) 4 false,
   o2 12 (.p0) 4 false,
   o2 13 (.same 12) 4 false,
   o2 14 (.idx (.t 13)) 4 false,
   o2 15 (.load 0 [] 0 (.t 14) 1 false) 4 false,
   o2 16 (.data .slen [.t 15]) 4 false,
   o2 17 (.data (.bin .geq) [.t 11, .t 16]) 4 false,
   ⟨false, [], [], .pick 7 (.c (.bool true)) (.t 17), [18], (some 18), none⟩]))
 (.cond (.t 18)
  (.seq (.rg [o1 19 (.p0),
    o1 20 (.same 19),
    o1 21 (.idx (.t 20)),
    o4 1 [0] (.store 0 [] 2 (.t 21) (.c [.b] [.bool true]))])
  (.seq (.rg [o1 2 (.lit [.i .i64] [.int .i64 (0)])])
  .ret))
  .skip))
 (.seq (.rg [o1 22 (.p0),
   o1 23 (.same 22),
   o1 24 (.idx (.t 23)),
   o1 25 (.load 0 [] 1 (.t 24) 1 false),
   o1 26 (.data (.bin .add) [.t 25, .c (.int .i64 (1))]),
   o1 27 (.same 22),
   o1 28 (.idx (.t 27)),
   o4 1 [0] (.store 0 [] 1 (.t 28) (.t 26))])
 (.seq (.rg [o1 29 (.p0),
   o1 33 (.p0),
   o1 30 (.same 29),
   o1 31 (.idx (.t 30)),
   o1 32 (.load 0 [] 0 (.t 31) 1 false),
   o1 34 (.same 33),
   o1 35 (.idx (.t 34)),
   o1 36 (.load 0 [] 1 (.t 35) 1 false),
   o1 37 (.data (.bin .sub) [.t 36, .c (.int .i64 (1))]),
   o1 38 (.data .sidx [.t 32, .t 37]),
   o1 39 (.data (.conv .i64) [.t 38]),
   o1 2 (.copy 39)])
 .ret))))
def s_ireader_one : Sig := ⟨[.mp [.d, .d, .d]], (.one false [.d])⟩
noncomputable def E_ireader_one : TEnv := envOf []
noncomputable def f_ireader_one (n : Nat) : (ByteArray × Int × Bool) → Option ((Int) × ByteArray × Int × Bool) := runFn n E_ireader_one c_ireader_one [[.s, .i .i64, .b]] [.i .i64] [.s, .i .i64, .b] [2] (.mp 0)
noncomputable def g_ireader_one := f_ireader_one BIG
noncomputable def p_ireader_one : TSp := ⟨s_ireader_one, [[.s, .i .i64, .b]], [.i .i64], [.s, .i .i64, .b], Ou.j (.mp 0), g_ireader_one⟩
theorem k_ireader_one : chkW PG E_ireader_one 68 s_ireader_one (c_ireader_one.ht 40) (.mp 0) = some (c_ireader_one.wc E_ireader_one, [2]) := by kernel_rfl
theorem ok_ireader_one : p_ireader_one.Ok PG 68 := mkOk (env_nil PG) k_ireader_one (by kernel_rfl)
theorem e_ireader_one (n : Nat) (a0 : ByteArray × Int × Bool) : f_ireader_one n a0 =
  Option.bind (bif a0.2.2 then
    some true
   else some (decide ((a0.1.size : Int) ≤ a0.2.1)) : Option (Bool)) fun x0 =>
  bif x0 then
   some ((0 : Int), (a0.1, a0.2.1, true))
  else bnd a0.1.size (IntKind.wrap .i64 ((IntKind.wrap .i64 (a0.2.1 + (1 : Int))) - (1 : Int))) fun n1 => Option.bind a0.1[n1]? fun b2 =>
  some (IntKind.wrap .i64 ((b2.toNat : Int)), (a0.1, IntKind.wrap .i64 (a0.2.1 + (1 : Int)), a0.2.2)) := by kernel_rfl
/- impl.reader).edges -/
def c_ireader_edges : TC :=
 (.seq (.rg [o1 2 (.lit [.sl [.i .i64, .i .i64]] [.slice none 0 0])])
 (.seq (.rg [o1 3 (.lit [.sl [.i .i64, .i .i64]] [.slice none 0 0])])
 (.seq (.rg [o1 7 (.p0),
   ⟨false, [], [], .call 2 67 [.t 0] (.mp 0), [8, 0], (some 8), none⟩,
   o1 4 (.copy 8)])
 (.seq (.join [⟨0, [.s, .i .i64, .b], false⟩, ⟨3, [.sl [.i .i64, .i .i64]], false⟩] 1073741433 none (.block 0 (.loop [⟨0, [.s, .i .i64, .b], false⟩, ⟨3, [.sl [.i .i64, .i .i64]], false⟩, ⟨4, [.i .i64], false⟩] 1073741433
  (.seq (.seq (.join [⟨17, [.b], false⟩] 261632 none (.rg [o1 9 (.copy 4),
    o1 10 (.data (.bin .gtr) [.t 9, .c (.int .i64 (0))]),
    o1 11 (.copy 10),
    o2 12 (.p0) 2 true,
    o2 13 (.same 12) 2 true,
    o2 14 (.idx (.t 13)) 2 true,
    o2 15 (.load 0 [] 2 (.t 14) 1 false) 2 true,
    o2 16 (.data .not [.t 15]) 2 true,
    ⟨false, [], [], .pick 11 (.t 16) (.c (.bool false)), [17], (some 17), none⟩]))
  (.cond (.t 17)
   .skip
   (.exit 0)))
  (.seq (.block 1 (.seq (.rg [o1 20 (.p0),
    ⟨false, [], [], .call 2 68 [.t 0] (.mp 0), [21, 0], (some 21), none⟩,
    o1 5 (.copy 21)])
  (.seq (.rg [o1 22 (.p0),
    ⟨false, [], [], .call 2 68 [.t 0] (.mp 0), [23, 0], (some 23), none⟩,
    o1 6 (.copy 23)])
  (.rg [⟨false, [], [], .det 2 (.copy 3), [24, 3], (some 24), none⟩,
    o1 25 (.copy 5),
    o1 26 (.copy 6),
    o1 27 (.build [.i .i64, .i .i64] [(0, .t 25), (1, .t 26)]),
    o1 28 (.sli [.i .i64, .i .i64] [.t 27]),
    ⟨false, [], [], .det 2 (.app (some 24) 28), [29, 24], (some 29), none⟩,
    ⟨false, [], [], .det 2 (.copy 29), [3, 29], (some 3), none⟩]))))
  (.rg [o1 18 (.copy 4),
    o1 19 (.data (.bin .sub) [.t 18, .c (.int .i64 (1))]),
    o1 4 (.copy 19)]))))))
 (.seq (.rg [⟨false, [], [], .det 2 (.copy 3), [30, 3], (some 30), none⟩,
   ⟨false, [], [], .det 2 (.copy 30), [2, 30], (some 2), none⟩])
 .ret)))))
def s_ireader_edges : Sig := ⟨[.mp [.d, .d, .d]], (.one false [.sl (.own none) [.d, .d]])⟩
noncomputable def E_ireader_edges : TEnv := envOf [(67, p_ireader_num), (68, p_ireader_one)]
noncomputable def f_ireader_edges (n : Nat) : (ByteArray × Int × Bool) → Option ((List (Int × Int)) × ByteArray × Int × Bool) := runFn n E_ireader_edges c_ireader_edges [[.s, .i .i64, .b]] [.sl [.i .i64, .i .i64]] [.s, .i .i64, .b] [2] (.mp 0)
noncomputable def g_ireader_edges := f_ireader_edges BIG
noncomputable def p_ireader_edges : TSp := ⟨s_ireader_edges, [[.s, .i .i64, .b]], [.sl [.i .i64, .i .i64]], [.s, .i .i64, .b], Ou.j (.mp 0), g_ireader_edges⟩
theorem k_ireader_edges : chkW PG E_ireader_edges 69 s_ireader_edges (c_ireader_edges.ht 31) (.mp 0) = some (c_ireader_edges.wc E_ireader_edges, [2]) := by kernel_rfl
theorem ok_ireader_edges : p_ireader_edges.Ok PG 69 := mkOk (env_cons ok_ireader_num (env_cons ok_ireader_one (env_nil PG))) k_ireader_edges (by kernel_rfl)
theorem e_ireader_edges (n : Nat) (a0 : ByteArray × Int × Bool) : f_ireader_edges n a0 =
  Option.bind (g_ireader_num a0) fun r0 =>
  Option.bind (loopT n (X := (ByteArray × Int × Bool) × (List (Int × Int)) × Int) (B := (ByteArray × Int × Bool) × (List (Int × Int))) (fun self2 x1 =>
    Option.bind (bif decide ((0 : Int) < x1.2.2) then
      some !x1.1.2.2
     else some false : Option (Bool)) fun x3 =>
    bif x3 then
     Option.bind (g_ireader_one x1.1) fun r4 =>
     Option.bind (g_ireader_one r4.2) fun r5 =>
     bif decide (x1.2.1.length + ([(r4.1, r5.1)]).length ≤ 4294967296) then
      self2 (r5.2, x1.2.1 ++ ([(r4.1, r5.1)]), IntKind.wrap .i64 (x1.2.2 - (1 : Int)))
     else none
    else some (x1.1, x1.2.1)) (r0.2, [], r0.1) : Option ((ByteArray × Int × Bool) × (List (Int × Int)))) fun x6 =>
  some (x6.2, x6.1) := by kernel_rfl
/- impl.reader).ends -/
def c_ireader_ends : TC :=
 (.seq (.rg [o1 2 (.lit [.b] [.bool false])])
 (.seq (.join [⟨2, [.b], false⟩] 1048572 none (.rg [o1 3 (.p0),
   o1 4 (.same 3),
   o1 5 (.idx (.t 4)),
   o1 6 (.load 0 [] 2 (.t 5) 1 false),
   o1 7 (.data .not [.t 6]),
   o1 8 (.copy 7),
   o2 9 (.p0) 5 true,
   o2 10 (.same 9) 5 true,
   o2 11 (.idx (.t 10)) 5 true,
   o2 12 (.load 0 [] 1 (.t 11) 1 false) 5 true,
   o2 13 (.p0) 5 true,
   o2 14 (.same 13) 5 true,
   o2 15 (.idx (.t 14)) 5 true,
   o2 16 (.load 0 [] 0 (.t 15) 1 false) 5 true,
   o2 17 (.data .slen [.t 16]) 5 true,
   o2 18 (.data (.bin .eql) [.t 12, .t 17]) 5 true,
   ⟨false, [], [], .pick 8 (.t 18) (.c (.bool false)), [19], (some 19), none⟩,
   o1 2 (.copy 19)]))
 .ret))
def s_ireader_ends : Sig := ⟨[.mp [.d, .d, .d]], (.one false [.d])⟩
noncomputable def E_ireader_ends : TEnv := envOf []
noncomputable def f_ireader_ends (n : Nat) : (ByteArray × Int × Bool) → Option ((Bool) × ByteArray × Int × Bool) := runFn n E_ireader_ends c_ireader_ends [[.s, .i .i64, .b]] [.b] [.s, .i .i64, .b] [2] (.mp 0)
noncomputable def g_ireader_ends := f_ireader_ends BIG
noncomputable def p_ireader_ends : TSp := ⟨s_ireader_ends, [[.s, .i .i64, .b]], [.b], [.s, .i .i64, .b], Ou.j (.mp 0), g_ireader_ends⟩
theorem k_ireader_ends : chkW PG E_ireader_ends 70 s_ireader_ends (c_ireader_ends.ht 20) (.mp 0) = some (c_ireader_ends.wc E_ireader_ends, [2]) := by kernel_rfl
theorem ok_ireader_ends : p_ireader_ends.Ok PG 70 := mkOk (env_nil PG) k_ireader_ends (by kernel_rfl)
theorem e_ireader_ends (n : Nat) (a0 : ByteArray × Int × Bool) : f_ireader_ends n a0 =
  Option.bind (bif !a0.2.2 then
    some (decide (a0.2.1 = (a0.1.size : Int)))
   else some false : Option (Bool)) fun x0 =>
  some (x0, a0) := by kernel_rfl
/- impl.ReadOrder -/
def c_iReadOrder : TC :=
 (.seq (.rg [⟨false, [], [], .det 2 (.a (.c [.i .i64, .i .i64, .sl [.i .i64, .i .i64], .i .i64] [.int .i64 (0), .int .i64 (0), .slice none 0 0, .int .i64 (0)])), [4, 1000000001], (some 4), none⟩,
   o1 5 (.lit [.b] [.bool false])])
 (.seq (.rg [o1 8 (.copy 1),
   o1 9 (.build [.s, .i .i64, .b] [(0, .t 8)]),
   o1 10 (.a (.t 9)),
   o1 6 (.p0)])
 (.seq (.rg [⟨false, [], [], .det 2 (.a (.c [.i .i64, .i .i64, .sl [.i .i64, .i .i64], .i .i64] [.int .i64 (0), .int .i64 (0), .slice none 0 0, .int .i64 (0)])), [7, 1000000001], (some 7), none⟩])
 (.seq (.rg [o1 11 (.same 6),
   ⟨false, [], [], .call 2 67 [.t 10] (.mp 0), [12, 10], (some 12), none⟩,
   o1 13 (.idx .nil),
   o4 1 [7] (.store 7 [] 0 (.t 13) (.t 12))])
 (.seq (.rg [o1 14 (.same 6),
   ⟨false, [], [], .call 2 68 [.t 10] (.mp 0), [15, 10], (some 15), none⟩,
   o1 16 (.idx .nil),
   o4 1 [7] (.store 7 [] 1 (.t 16) (.t 15))])
 (.seq (.rg [o1 17 (.same 6),
   ⟨false, [], [], .call 2 67 [.t 10] (.mp 0), [18, 10], (some 18), none⟩,
   o1 19 (.idx .nil),
   o4 1 [7] (.store 7 [] 3 (.t 19) (.t 18))])
 (.seq (.rg [o1 20 (.same 6),
   ⟨false, [], [], .call 2 69 [.t 10] (.mp 0), [21, 10], (some 21), none⟩,
   o1 22 (.idx .nil),
   o4 2 [7, 21] (.store 7 [] 2 (.t 22) (.t 21))])
 (.seq (.seq (.join [⟨31, [.b], false⟩] 4286579712 none (.rg [o1 23 (.same 6),
   ⟨false, [], [], .call 2 70 [.t 10] (.mp 0), [24, 10], (some 24), none⟩,
   o1 25 (.data .not [.t 24]),
   o1 26 (.copy 25),
   o2 27 (.copy 0) 3 false,
   o2 28 (.load 7 [] 0 .nil 4 true) 3 false,
   ⟨false, [], [], .call 1 23 [.t 27, .t 28] .no, [29], (some 29), some (3, false)⟩,
   o2 30 (.data .not [.t 29]) 3 false,
   ⟨false, [], [], .pick 26 (.c (.bool true)) (.t 30), [31], (some 31), none⟩]))
 (.cond (.t 31)
  (.seq (.rg [o1 32 (.build [.i .i64, .i .i64, .sl [.i .i64, .i .i64], .i .i64] []),
    o4 2 [4, 32] (.store 4 [] 0 .nil (.t 32)),
    o1 5 (.lit [.b] [.bool false])])
  .ret)
  .skip))
 (.seq (.rg [o1 33 (.load 7 [] 0 .nil 4 true),
   ⟨false, [33], [], .det 2 (.store 4 [] 0 .nil (.t 33)), [4, 33, 33, 7], none, none⟩,
   o1 5 (.lit [.b] [.bool true])])
 .ret)))))))))
def s_iReadOrder : Sig := ⟨[.rd false [.d], .rd false [.d]], (.tup [(true, 4), (false, 1)] [.d, .d, .sl (.own none) [.d, .d], .d, .d])⟩
noncomputable def E_iReadOrder : TEnv := envOf [(67, p_ireader_num), (68, p_ireader_one), (69, p_ireader_edges), (70, p_ireader_ends), (23, p_iOrderOk)]
noncomputable def f_iReadOrder (n : Nat) : Int × ByteArray → Option ((Int × Int × List (Int × Int) × Int × Bool) × Unit) := runFn n E_iReadOrder c_iReadOrder [[.i .i64], [.s]] [.i .i64, .i .i64, .sl [.i .i64, .i .i64], .i .i64, .b] [] [4, 5] .no
noncomputable def g_iReadOrder := f_iReadOrder BIG
noncomputable def p_iReadOrder : TSp := ⟨s_iReadOrder, [[.i .i64], [.s]], [.i .i64, .i .i64, .sl [.i .i64, .i .i64], .i .i64, .b], [], Ou.j .no, g_iReadOrder⟩
theorem k_iReadOrder : chkW PG E_iReadOrder 21 s_iReadOrder (c_iReadOrder.ht 34) .no = some (c_iReadOrder.wc E_iReadOrder, [4, 5]) := by kernel_rfl
theorem ok_iReadOrder : p_iReadOrder.Ok PG 21 := mkOk (env_cons ok_ireader_num (env_cons ok_ireader_one (env_cons ok_ireader_edges (env_cons ok_ireader_ends (env_cons ok_iOrderOk (env_nil PG)))))) k_iReadOrder (by kernel_rfl)
theorem e_iReadOrder (n : Nat) (a0 : Int) (a1 : ByteArray) : f_iReadOrder n (a0, a1) =
  Option.bind (g_ireader_num (a1, (0 : Int), false)) fun r0 =>
  Option.bind (g_ireader_one r0.2) fun r1 =>
  Option.bind (g_ireader_num r1.2) fun r2 =>
  Option.bind (g_ireader_edges r2.2) fun r3 =>
  Option.bind (Option.bind (g_ireader_ends r3.2) fun r4 =>
   bif !r4.1 then
    some true
   else Option.bind (g_iOrderOk (a0, (r0.1, r1.1, r3.1, r2.1))) fun r5 =>
   some !r5.1 : Option (Bool)) fun x6 =>
  bif x6 then
   some (((0 : Int), (0 : Int), [], (0 : Int), false), ())
  else some ((r0.1, r1.1, r3.1, r2.1, true), ()) := by kernel_rfl
/- spec.l01In -/
def c_sl01In : TC :=
 (.seq (.rg [o1 6 (.lit [.b] [.bool false])])
 (.seq (.join [⟨6, [.b], false⟩] 32704 none (.rg [o1 7 (.copy 0),
   o1 8 (.copy 1),
   o1 9 (.data (.bin .geq) [.t 7, .t 8]),
   o1 10 (.copy 9),
   o2 11 (.copy 0) 3 true,
   o2 12 (.copy 2) 3 true,
   o2 13 (.data (.bin .leq) [.t 11, .t 12]) 3 true,
   ⟨false, [], [], .pick 10 (.t 13) (.c (.bool false)), [14], (some 14), none⟩,
   o1 6 (.copy 14)]))
 .ret))
def s_sl01In : Sig := ⟨[.rd false [.d], .rd false [.d], .rd false [.d]], (.one false [.d])⟩
noncomputable def E_sl01In : TEnv := envOf []
noncomputable def f_sl01In (n : Nat) : Int × Int × Int → Option ((Bool) × Unit) := runFn n E_sl01In c_sl01In [[.i .i64], [.i .i64], [.i .i64]] [.b] [] [6] .no
noncomputable def g_sl01In := f_sl01In BIG
noncomputable def p_sl01In : TSp := ⟨s_sl01In, [[.i .i64], [.i .i64], [.i .i64]], [.b], [], Ou.j .no, g_sl01In⟩
theorem k_sl01In : chkW PG E_sl01In 46 s_sl01In (c_sl01In.ht 15) .no = some (c_sl01In.wc E_sl01In, [6]) := by kernel_rfl
theorem ok_sl01In : p_sl01In.Ok PG 46 := mkOk (env_nil PG) k_sl01In (by kernel_rfl)
theorem e_sl01In (n : Nat) (a0 : Int) (a1 : Int) (a2 : Int) : f_sl01In n (a0, a1, a2) =
  Option.bind (bif decide (a1 ≤ a0) then
    some (decide (a0 ≤ a2))
   else some false : Option (Bool)) fun x0 =>
  some (x0, ()) := by kernel_rfl
/- spec.EdgeOk -/
def c_sEdgeOk : TC :=
 (.seq (.rg [o1 3 (.a (.t 1)),
   o1 4 (.lit [.b] [.bool false])])
 (.seq (.join [⟨4, [.b], false⟩] 268435440 none (.rg [o1 5 (.copy 0),
   o3 6 46 [.t 5, .c [.i .i64] [.int .i64 (1)], .c [.i .i64] [.int .i64 (12)]],
   o1 7 (.copy 6),
   o2 8 (.idx .nil) 2 true,
   o2 9 (.load 3 [] 0 (.t 8) 1 false) 2 true,
   o2 10 (.copy 0) 2 true,
   o2 11 (.data (.bin .sub) [.t 10, .c (.int .i64 (1))]) 2 true,
   ⟨false, [], [], .call 1 46 [.t 9, .c [.i .i64] [.int .i64 (0)], .t 11] .no, [12], (some 12), some (2, true)⟩,
   ⟨false, [], [], .pick 7 (.t 12) (.c (.bool false)), [13], (some 13), none⟩,
   o1 14 (.copy 13),
   o2 15 (.idx .nil) 9 true,
   o2 16 (.load 3 [] 1 (.t 15) 1 false) 9 true,
   o2 17 (.copy 0) 9 true,
   o2 18 (.data (.bin .sub) [.t 17, .c (.int .i64 (1))]) 9 true,
   ⟨false, [], [], .call 1 46 [.t 16, .c [.i .i64] [.int .i64 (0)], .t 18] .no, [19], (some 19), some (9, true)⟩,
   ⟨false, [], [], .pick 14 (.t 19) (.c (.bool false)), [20], (some 20), none⟩,
   o1 21 (.copy 20),
   o2 22 (.idx .nil) 16 true,
   o2 23 (.load 3 [] 0 (.t 22) 1 false) 16 true,
   o2 24 (.idx .nil) 16 true,
   o2 25 (.load 3 [] 1 (.t 24) 1 false) 16 true,
   o2 26 (.data (.bin .lss) [.t 23, .t 25]) 16 true,
   ⟨false, [], [], .pick 21 (.t 26) (.c (.bool false)), [27], (some 27), none⟩,
   o1 4 (.copy 27)]))
 .ret))
def s_sEdgeOk : Sig := ⟨[.rd false [.d], .rd true [.d, .d]], (.one false [.d])⟩
noncomputable def E_sEdgeOk : TEnv := envOf [(46, p_sl01In)]
noncomputable def f_sEdgeOk (n : Nat) : Int × (Int × Int) → Option ((Bool) × Unit) := runFn n E_sEdgeOk c_sEdgeOk [[.i .i64], [.i .i64, .i .i64]] [.b] [] [4] .no
noncomputable def g_sEdgeOk := f_sEdgeOk BIG
noncomputable def p_sEdgeOk : TSp := ⟨s_sEdgeOk, [[.i .i64], [.i .i64, .i .i64]], [.b], [], Ou.j .no, g_sEdgeOk⟩
theorem k_sEdgeOk : chkW PG E_sEdgeOk 47 s_sEdgeOk (c_sEdgeOk.ht 28) .no = some (c_sEdgeOk.wc E_sEdgeOk, [4]) := by kernel_rfl
theorem ok_sEdgeOk : p_sEdgeOk.Ok PG 47 := mkOk (env_cons ok_sl01In (env_nil PG)) k_sEdgeOk (by kernel_rfl)
theorem e_sEdgeOk (n : Nat) (a0 : Int) (a1 : Int × Int) : f_sEdgeOk n (a0, a1) =
  Option.bind (Option.bind (g_sl01In (a0, (1 : Int), (12 : Int))) fun r0 =>
   bif r0.1 then
    Option.bind (g_sl01In (a1.1, (0 : Int), IntKind.wrap .i64 (a0 - (1 : Int)))) fun r1 =>
    bif r1.1 then
     Option.bind (g_sl01In (a1.2, (0 : Int), IntKind.wrap .i64 (a0 - (1 : Int)))) fun r2 =>
     bif r2.1 then
      some (decide (a1.1 < a1.2))
     else some false
    else some false
   else some false : Option (Bool)) fun x3 =>
  some (x3, ()) := by kernel_rfl
/- spec.l05Edges -/
def c_sl05Edges : TC :=
 (.seq (.rg [o1 4 (.lit [.b] [.bool false])])
 (.seq (.join [] 68719476720 (some [⟨4, [.b], false⟩]) (.seq (.rg [o1 5 (.lit [.i .i64] [.int .i64 (0)])])
 (.block 0 (.loop [⟨5, [.i .i64], false⟩] 68719476720
  (.seq (.seq (.rg [o1 6 (.copy 5),
    o1 7 (.copy 1),
    o1 8 (.len 7),
    o1 9 (.data (.bin .lss) [.t 6, .t 8])])
  (.cond (.t 9)
   .skip
   (.exit 0)))
  (.seq (.join [] 68719472656 (some [⟨4, [.b], false⟩]) (.block 1 (.seq (.join [⟨35, [.b], false⟩] 68719472640 none (.rg [o1 12 (.copy 0),
    o1 13 (.copy 1),
    o1 14 (.copy 5),
    o1 15 (.index 13 (.t 14)),
    o1 16 (.load 13 [(0, 2)] 0 (.t 15) 2 false),
    o3 17 47 [.t 12, .t 16],
    o1 18 (.data .not [.t 17]),
    o1 19 (.copy 18),
    o2 20 (.copy 5) 7 false,
    o2 21 (.data (.bin .gtr) [.t 20, .c (.int .i64 (0))]) 7 false,
    o2 22 (.copy 21) 7 false,
    o2 23 (.copy 1) 10 true,
    o2 24 (.copy 5) 10 true,
    o2 25 (.data (.bin .sub) [.t 24, .c (.int .i64 (1))]) 10 true,
    o2 26 (.index 23 (.t 25)) 10 true,
    o2 27 (.load 23 [(0, 2)] 0 (.t 26) 2 false) 10 true,
    o2 28 (.copy 1) 10 true,
    o2 29 (.copy 5) 10 true,
    o2 30 (.index 28 (.t 29)) 10 true,
    o2 31 (.load 28 [(0, 2)] 0 (.t 30) 2 false) 10 true,
    ⟨false, [], [], .call 1 116 [.t 27, .t 31] .no, [32], (some 32), some (10, true)⟩,
    o2 33 (.data .not [.t 32]) 10 true,
    ⟨false, [], [], .pick 22 (.t 33) (.c (.bool false)), [34], (some 34), some (7, false)⟩,
    ⟨false, [], [], .pick 19 (.c (.bool true)) (.t 34), [35], (some 35), none⟩]))
  (.cond (.t 35)
   (.seq (.rg [o1 4 (.lit [.b] [.bool false])])
   .ret)
   .skip))))
  (.rg [o1 10 (.copy 5),
    o1 11 (.data (.bin .add) [.t 10, .c (.int .i64 (1))]),
    o1 5 (.copy 11)])))))))
 (.seq (.rg [o1 36 (.copy 1),
   o1 37 (.len 36),
   o1 38 (.data (.bin .leq) [.t 37, .c (.int .i64 (66))]),
   o1 4 (.copy 38)])
 .ret)))
def s_sl05Edges : Sig := ⟨[.rd false [.d], .rd false [.sl (.own none) [.d, .d]]], (.one false [.d])⟩
noncomputable def E_sl05Edges : TEnv := envOf [(47, p_sEdgeOk), (116, p_sl05Less)]
noncomputable def f_sl05Edges (n : Nat) : Int × (List (Int × Int)) → Option ((Bool) × Unit) := runFn n E_sl05Edges c_sl05Edges [[.i .i64], [.sl [.i .i64, .i .i64]]] [.b] [] [4] .no
noncomputable def g_sl05Edges := f_sl05Edges BIG
noncomputable def p_sl05Edges : TSp := ⟨s_sl05Edges, [[.i .i64], [.sl [.i .i64, .i .i64]]], [.b], [], Ou.j .no, g_sl05Edges⟩
theorem k_sl05Edges : chkW PG E_sl05Edges 63 s_sl05Edges (c_sl05Edges.ht 39) .no = some (c_sl05Edges.wc E_sl05Edges, [4]) := by kernel_rfl
theorem ok_sl05Edges : p_sl05Edges.Ok PG 63 := mkOk (env_cons ok_sEdgeOk (env_cons ok_sl05Less (env_nil PG))) k_sl05Edges (by kernel_rfl)
theorem e_sl05Edges (n : Nat) (a0 : Int) (a1 : List (Int × Int)) : f_sl05Edges n (a0, a1) =
  Option.bind (loopT n (X := Int) (B := (Unit) ⊕ (Bool)) (fun self1 x0 =>
    bif decide (x0 < (a1.length : Int)) then
     Option.bind (Option.bind (bnd a1.length x0 fun n2 =>
       Option.bind a1[n2]? fun y3 =>
       Option.bind (g_sEdgeOk (a0, y3)) fun r4 =>
       bif !r4.1 then
        some true
       else bif decide ((0 : Int) < x0) then
        bnd a1.length (IntKind.wrap .i64 (x0 - (1 : Int))) fun n5 =>
        Option.bind a1[n5]? fun y6 =>
        bnd a1.length x0 fun n7 =>
        Option.bind a1[n7]? fun y8 =>
        Option.bind (g_sl05Less (y6, y8)) fun r9 =>
        some !r9.1
       else some false : Option (Bool)) fun x10 =>
      bif x10 then
       some (Sum.inr false)
      else some (Sum.inl ()) : Option ((Unit) ⊕ (Bool))) fun y => match y with
     | .inl x11 =>
      self1 (IntKind.wrap .i64 (x0 + (1 : Int)))
     | .inr x11 =>
      some (Sum.inr x11)
    else some (Sum.inl ())) (0 : Int) : Option ((Unit) ⊕ (Bool))) fun y => match y with
  | .inl x12 =>
   some (decide ((a1.length : Int) ≤ (66 : Int)), ())
  | .inr x12 =>
   some (x12, ()) := by kernel_rfl
/- spec.OrderOk -/
def c_sOrderOk : TC :=
 (.seq (.rg [o1 3 (.a (.t 1)),
   o1 4 (.lit [.b] [.bool false])])
 (.seq (.seq (.join [⟨26, [.b], false⟩] 134217696 none (.rg [o1 5 (.copy 0),
   o3 6 46 [.t 5, .c [.i .i64] [.int .i64 (1)], .c [.i .i64] [.int .i64 (12)]],
   o1 7 (.data .not [.t 6]),
   o1 8 (.copy 7),
   o2 9 (.idx .nil) 3 false,
   o2 10 (.load 3 [] 0 (.t 9) 1 false) 3 false,
   ⟨false, [], [], .call 1 46 [.t 10, .c [.i .i64] [.int .i64 (1)], .c [.i .i64] [.int .i64 (100000)]] .no, [11], (some 11), some (3, false)⟩,
   o2 12 (.data .not [.t 11]) 3 false,
   ⟨false, [], [], .pick 8 (.c (.bool true)) (.t 12), [13], (some 13), none⟩,
   o1 14 (.copy 13),
   o2 15 (.idx .nil) 9 false,
   o2 16 (.load 3 [] 1 (.t 15) 1 false) 9 false,
   ⟨false, [], [], .call 1 46 [.t 16, .c [.i .i64] [.int .i64 (1)], .c [.i .i64] [.int .i64 (4)]] .no, [17], (some 17), some (9, false)⟩,
   o2 18 (.data .not [.t 17]) 9 false,
   ⟨false, [], [], .pick 14 (.c (.bool true)) (.t 18), [19], (some 19), none⟩,
   o1 20 (.copy 19),
   o2 21 (.copy 0) 15 false,
   o2 22 (.idx .nil) 15 false,
   o2 23 (.load 3 [] 2 (.t 22) 1 false) 15 false,
   ⟨false, [], [], .call 1 63 [.t 21, .t 23] .no, [24], (some 24), some (15, false)⟩,
   o2 25 (.data .not [.t 24]) 15 false,
   ⟨false, [], [], .pick 20 (.c (.bool true)) (.t 25), [26], (some 26), none⟩]))
 (.cond (.t 26)
  (.seq (.rg [o1 4 (.lit [.b] [.bool false])])
  .ret)
  .skip))
 (.seq (.seq (.rg [o1 27 (.idx .nil),
   o1 28 (.load 3 [] 1 (.t 27) 1 false)])
 (.block 0 (.seq (.rg [o1 30 (.data (.bin .eql) [.t 28, .c (.int .i64 (3))]),
   o1 29 (.copy 30)])
 (.cond (.t 29)
  (.seq (.join [⟨4, [.b], false⟩] 4395899027472 none (.rg [o1 31 (.idx .nil),
    o1 32 (.load 3 [] 2 (.t 31) 1 false),
    o1 33 (.len 32),
    o1 34 (.data (.bin .eql) [.t 33, .c (.int .i64 (0))]),
    o1 35 (.copy 34),
    o2 36 (.idx .nil) 4 true,
    o2 37 (.load 3 [] 3 (.t 36) 1 false) 4 true,
    o2 38 (.copy 0) 4 true,
    o2 39 (.data (.bin .sub) [.t 38, .c (.int .i64 (1))]) 4 true,
    ⟨false, [], [], .call 1 46 [.t 37, .c [.i .i64] [.int .i64 (0)], .t 39] .no, [40], (some 40), some (4, true)⟩,
    ⟨false, [], [], .pick 35 (.t 40) (.c (.bool false)), [41], (some 41), none⟩,
    o1 4 (.copy 41)]))
  .ret)
  (.seq (.rg [o1 43 (.data (.bin .eql) [.t 28, .c (.int .i64 (4))]),
    o1 42 (.copy 43)])
  (.cond (.t 42)
   (.seq (.join [⟨4, [.b], false⟩] 8989607068696592 none (.rg [o1 44 (.idx .nil),
     o1 45 (.load 3 [] 2 (.t 44) 1 false),
     o1 46 (.len 45),
     o1 47 (.data (.bin .gtr) [.t 46, .c (.int .i64 (0))]),
     o1 48 (.copy 47),
     o2 49 (.idx .nil) 4 true,
     o2 50 (.load 3 [] 3 (.t 49) 1 false) 4 true,
     o2 51 (.data (.bin .eql) [.t 50, .c (.int .i64 (0))]) 4 true,
     ⟨false, [], [], .pick 48 (.t 51) (.c (.bool false)), [52], (some 52), none⟩,
     o1 4 (.copy 52)]))
   .ret)
   .skip))))))
 (.seq (.join [⟨4, [.b], false⟩] 4602678819172646928 none (.rg [o1 53 (.idx .nil),
   o1 54 (.load 3 [] 2 (.t 53) 1 false),
   o1 55 (.len 54),
   o1 56 (.data (.bin .eql) [.t 55, .c (.int .i64 (1))]),
   o1 57 (.copy 56),
   o2 58 (.idx .nil) 4 true,
   o2 59 (.load 3 [] 3 (.t 58) 1 false) 4 true,
   o2 60 (.data (.bin .eql) [.t 59, .c (.int .i64 (0))]) 4 true,
   ⟨false, [], [], .pick 57 (.t 60) (.c (.bool false)), [61], (some 61), none⟩,
   o1 4 (.copy 61)]))
 .ret))))
def s_sOrderOk : Sig := ⟨[.rd false [.d], .rd true [.d, .d, .sl (.own none) [.d, .d], .d]], (.one false [.d])⟩
noncomputable def E_sOrderOk : TEnv := envOf [(46, p_sl01In), (63, p_sl05Edges)]
noncomputable def f_sOrderOk (n : Nat) : Int × (Int × Int × List (Int × Int) × Int) → Option ((Bool) × Unit) := runFn n E_sOrderOk c_sOrderOk [[.i .i64], [.i .i64, .i .i64, .sl [.i .i64, .i .i64], .i .i64]] [.b] [] [4] .no
noncomputable def g_sOrderOk := f_sOrderOk BIG
noncomputable def p_sOrderOk : TSp := ⟨s_sOrderOk, [[.i .i64], [.i .i64, .i .i64, .sl [.i .i64, .i .i64], .i .i64]], [.b], [], Ou.j .no, g_sOrderOk⟩
theorem k_sOrderOk : chkW PG E_sOrderOk 22 s_sOrderOk (c_sOrderOk.ht 62) .no = some (c_sOrderOk.wc E_sOrderOk, [4]) := by kernel_rfl
theorem ok_sOrderOk : p_sOrderOk.Ok PG 22 := mkOk (env_cons ok_sl01In (env_cons ok_sl05Edges (env_nil PG))) k_sOrderOk (by kernel_rfl)
theorem e_sOrderOk (n : Nat) (a0 : Int) (a1 : Int × Int × List (Int × Int) × Int) : f_sOrderOk n (a0, a1) =
  Option.bind (Option.bind (g_sl01In (a0, (1 : Int), (12 : Int))) fun r0 =>
   bif !r0.1 then
    some true
   else Option.bind (g_sl01In (a1.1, (1 : Int), (100000 : Int))) fun r1 =>
   bif !r1.1 then
    some true
   else Option.bind (g_sl01In (a1.2.1, (1 : Int), (4 : Int))) fun r2 =>
   bif !r2.1 then
    some true
   else Option.bind (g_sl05Edges (a0, a1.2.2.1)) fun r3 =>
   some !r3.1 : Option (Bool)) fun x4 =>
  bif x4 then
   some (false, ())
  else bif decide (a1.2.1 = (3 : Int)) then
   Option.bind (bif decide ((a1.2.2.1.length : Int) = (0 : Int)) then
     Option.bind (g_sl01In (a1.2.2.2, (0 : Int), IntKind.wrap .i64 (a0 - (1 : Int)))) fun r5 =>
     some r5.1
    else some false : Option (Bool)) fun x6 =>
   some (x6, ())
  else bif decide (a1.2.1 = (4 : Int)) then
   Option.bind (bif decide ((0 : Int) < (a1.2.2.1.length : Int)) then
     some (decide (a1.2.2.2 = (0 : Int)))
    else some false : Option (Bool)) fun x7 =>
   some (x7, ())
  else Option.bind (bif decide ((a1.2.2.1.length : Int) = (1 : Int)) then
    some (decide (a1.2.2.2 = (0 : Int)))
   else some false : Option (Bool)) fun x8 =>
  some (x8, ()) := by kernel_rfl
/- laws.sameEdges -/
def c_lsameEdges : TC :=
 (.seq (.rg [o1 4 (.lit [.b] [.bool false])])
 (.seq (.seq (.rg [o1 6 (.copy 0),
   o1 7 (.len 6),
   o1 8 (.copy 1),
   o1 9 (.len 8),
   o1 10 (.data (.bin .neq) [.t 7, .t 9])])
 (.cond (.t 10)
  (.seq (.rg [o1 4 (.lit [.b] [.bool false])])
  .ret)
  .skip))
 (.seq (.join [] 67106864 (some [⟨4, [.b], false⟩]) (.seq (.rg [o1 5 (.lit [.i .i64] [.int .i64 (0)])])
 (.block 0 (.loop [⟨5, [.i .i64], false⟩] 67106864
  (.seq (.seq (.rg [o1 11 (.copy 5),
    o1 12 (.copy 0),
    o1 13 (.len 12),
    o1 14 (.data (.bin .lss) [.t 11, .t 13])])
  (.cond (.t 14)
   .skip
   (.exit 0)))
  (.seq (.block 1 (.seq (.rg [o1 17 (.copy 0),
    o1 18 (.copy 5),
    o1 21 (.copy 1),
    o1 22 (.copy 5),
    o1 19 (.index 17 (.t 18)),
    o1 20 (.load 17 [(0, 2)] 0 (.t 19) 2 false),
    o1 23 (.index 21 (.t 22)),
    o1 24 (.load 21 [(0, 2)] 0 (.t 23) 2 false),
    o1 25 (.eqA [.i, .i] (.t 20) (.t 24) true)])
  (.cond (.t 25)
   (.seq (.rg [o1 4 (.lit [.b] [.bool false])])
   .ret)
   .skip)))
  (.rg [o1 15 (.copy 5),
    o1 16 (.data (.bin .add) [.t 15, .c (.int .i64 (1))]),
    o1 5 (.copy 16)])))))))
 (.seq (.rg [o1 4 (.lit [.b] [.bool true])])
 .ret))))
def s_lsameEdges : Sig := ⟨[.rd false [.sl (.own none) [.d, .d]], .rd false [.sl (.own none) [.d, .d]]], (.one false [.d])⟩
noncomputable def E_lsameEdges : TEnv := envOf []
noncomputable def f_lsameEdges (n : Nat) : (List (Int × Int)) × (List (Int × Int)) → Option ((Bool) × Unit) := runFn n E_lsameEdges c_lsameEdges [[.sl [.i .i64, .i .i64]], [.sl [.i .i64, .i .i64]]] [.b] [] [4] .no
noncomputable def g_lsameEdges := f_lsameEdges BIG
noncomputable def p_lsameEdges : TSp := ⟨s_lsameEdges, [[.sl [.i .i64, .i .i64]], [.sl [.i .i64, .i .i64]]], [.b], [], Ou.j .no, g_lsameEdges⟩
theorem k_lsameEdges : chkW PG E_lsameEdges 17 s_lsameEdges (c_lsameEdges.ht 26) .no = some (c_lsameEdges.wc E_lsameEdges, [4]) := by kernel_rfl
theorem ok_lsameEdges : p_lsameEdges.Ok PG 17 := mkOk (env_nil PG) k_lsameEdges (by kernel_rfl)
theorem e_lsameEdges (n : Nat) (a0 : List (Int × Int)) (a1 : List (Int × Int)) : f_lsameEdges n (a0, a1) =
  bif !decide ((a0.length : Int) = (a1.length : Int)) then
   some (false, ())
  else Option.bind (loopT n (X := Int) (B := (Unit) ⊕ (Bool)) (fun self1 x0 =>
    bif decide (x0 < (a0.length : Int)) then
     bnd a0.length x0 fun n2 =>
     Option.bind a0[n2]? fun y3 =>
     bnd a1.length x0 fun n4 =>
     Option.bind a1[n4]? fun y5 =>
     bif !(decide (y3.1 = y5.1) && (decide (y3.2 = y5.2) && true)) then
      some (Sum.inr false)
     else self1 (IntKind.wrap .i64 (x0 + (1 : Int)))
    else some (Sum.inl ())) (0 : Int) : Option ((Unit) ⊕ (Bool))) fun y => match y with
  | .inl x6 =>
   some (true, ())
  | .inr x6 =>
   some (x6, ()) := by kernel_rfl
/- spec.HasEdge -/
def c_sHasEdge : TC :=
 (.seq (.rg [o1 2 (.a (.t 0)),
   o1 3 (.a (.t 1)),
   o1 4 (.lit [.b] [.bool false])])
 (.seq (.rg [o1 5 (.idx .nil),
   o1 6 (.load 2 [] 1 (.t 5) 1 false),
   o1 7 (.load 3 [] 0 .nil 2 false),
   o3 8 103 [.t 6, .t 7],
   o1 4 (.copy 8)])
 .ret))
def s_sHasEdge : Sig := ⟨[.rd true [.d, .sl (.own none) [.d, .d]], .rd true [.d, .d]], (.one false [.d])⟩
noncomputable def E_sHasEdge : TEnv := envOf [(103, p_sl05Has)]
noncomputable def f_sHasEdge (n : Nat) : (Int × List (Int × Int)) × (Int × Int) → Option ((Bool) × Unit) := runFn n E_sHasEdge c_sHasEdge [[.i .i64, .sl [.i .i64, .i .i64]], [.i .i64, .i .i64]] [.b] [] [4] .no
noncomputable def g_sHasEdge := f_sHasEdge BIG
noncomputable def p_sHasEdge : TSp := ⟨s_sHasEdge, [[.i .i64, .sl [.i .i64, .i .i64]], [.i .i64, .i .i64]], [.b], [], Ou.j .no, g_sHasEdge⟩
theorem k_sHasEdge : chkW PG E_sHasEdge 113 s_sHasEdge (c_sHasEdge.ht 9) .no = some (c_sHasEdge.wc E_sHasEdge, [4]) := by kernel_rfl
theorem ok_sHasEdge : p_sHasEdge.Ok PG 113 := mkOk (env_cons ok_sl05Has (env_nil PG)) k_sHasEdge (by kernel_rfl)
theorem e_sHasEdge (n : Nat) (a0 : Int × List (Int × Int)) (a1 : Int × Int) : f_sHasEdge n (a0, a1) =
  Option.bind (g_sl05Has (a0.2, a1)) fun r0 =>
  some (r0.1, ()) := by kernel_rfl
/- spec.GraphOk -/
def c_sGraphOk : TC :=
 (.seq (.rg [o1 1 (.a (.t 0)),
   o1 2 (.lit [.b] [.bool false])])
 (.seq (.join [⟨2, [.b], false⟩] 8188 none (.rg [o1 3 (.idx .nil),
   o1 4 (.load 1 [] 0 (.t 3) 1 false),
   o3 5 46 [.t 4, .c [.i .i64] [.int .i64 (1)], .c [.i .i64] [.int .i64 (12)]],
   o1 6 (.copy 5),
   o2 7 (.idx .nil) 3 true,
   o2 8 (.load 1 [] 0 (.t 7) 1 false) 3 true,
   o2 9 (.idx .nil) 3 true,
   o2 10 (.load 1 [] 1 (.t 9) 1 false) 3 true,
   ⟨false, [], [], .call 1 63 [.t 8, .t 10] .no, [11], (some 11), some (3, true)⟩,
   ⟨false, [], [], .pick 6 (.t 11) (.c (.bool false)), [12], (some 12), none⟩,
   o1 2 (.copy 12)]))
 .ret))
def s_sGraphOk : Sig := ⟨[.rd true [.d, .sl (.own none) [.d, .d]]], (.one false [.d])⟩
noncomputable def E_sGraphOk : TEnv := envOf [(46, p_sl01In), (63, p_sl05Edges)]
noncomputable def f_sGraphOk (n : Nat) : (Int × List (Int × Int)) → Option ((Bool) × Unit) := runFn n E_sGraphOk c_sGraphOk [[.i .i64, .sl [.i .i64, .i .i64]]] [.b] [] [2] .no
noncomputable def g_sGraphOk := f_sGraphOk BIG
noncomputable def p_sGraphOk : TSp := ⟨s_sGraphOk, [[.i .i64, .sl [.i .i64, .i .i64]]], [.b], [], Ou.j .no, g_sGraphOk⟩
theorem k_sGraphOk : chkW PG E_sGraphOk 18 s_sGraphOk (c_sGraphOk.ht 13) .no = some (c_sGraphOk.wc E_sGraphOk, [2]) := by kernel_rfl
theorem ok_sGraphOk : p_sGraphOk.Ok PG 18 := mkOk (env_cons ok_sl01In (env_cons ok_sl05Edges (env_nil PG))) k_sGraphOk (by kernel_rfl)
theorem e_sGraphOk (n : Nat) (a0 : Int × List (Int × Int)) : f_sGraphOk n a0 =
  Option.bind (Option.bind (g_sl01In (a0.1, (1 : Int), (12 : Int))) fun r0 =>
   bif r0.1 then
    Option.bind (g_sl05Edges (a0.1, a0.2)) fun r1 =>
    some r1.1
   else some false : Option (Bool)) fun x2 =>
  some (x2, ()) := by kernel_rfl
/- spec.l05Labels -/
def c_sl05Labels : TC :=
 (.seq (.rg [o1 4 (.lit [.sl [.i .i64]] [.slice none 0 0])])
 (.seq (.rg [o1 11 (.sli [.i .i64] []),
   ⟨false, [], [], .det 2 (.copy 11), [5, 11], (some 5), none⟩])
 (.seq (.join [⟨5, [.sl [.i .i64]], false⟩] 2093152 none (.seq (.rg [o1 6 (.lit [.i .i64] [.int .i64 (0)])])
 (.block 0 (.loop [⟨5, [.sl [.i .i64]], false⟩, ⟨6, [.i .i64], false⟩] 2093152
  (.seq (.seq (.rg [o1 12 (.copy 6),
    o1 13 (.copy 0),
    o1 14 (.data (.bin .lss) [.t 12, .t 13])])
  (.cond (.t 14)
   .skip
   (.exit 0)))
  (.seq (.block 1 (.rg [⟨false, [], [], .det 2 (.copy 5), [17, 5], (some 17), none⟩,
    o1 18 (.copy 6),
    o1 19 (.sli [.i .i64] [.t 18]),
    ⟨false, [], [], .det 2 (.app (some 17) 19), [20, 17], (some 20), none⟩,
    ⟨false, [], [], .det 2 (.copy 20), [5, 20], (some 5), none⟩]))
  (.rg [o1 15 (.copy 6),
    o1 16 (.data (.bin .add) [.t 15, .c (.int .i64 (1))]),
    o1 6 (.copy 16)])))))))
 (.seq (.join [⟨5, [.sl [.i .i64]], false⟩] 1180591620717409208224 none (.seq (.rg [o1 7 (.lit [.i .i64] [.int .i64 (0)])])
 (.block 2 (.loop [⟨5, [.sl [.i .i64]], false⟩, ⟨7, [.i .i64], false⟩] 1180591620717409208224
  (.seq (.seq (.rg [o1 21 (.copy 7),
    o1 22 (.copy 0),
    o1 23 (.data (.bin .lss) [.t 21, .t 22])])
  (.cond (.t 23)
   .skip
   (.exit 2)))
  (.seq (.join [⟨5, [.sl [.i .i64]], false⟩] 1180591620717344196384 none (.block 3 (.seq (.rg [o1 8 (.lit [.i .i64] [.int .i64 (0)])])
  (.block 4 (.loop [⟨5, [.sl [.i .i64]], false⟩, ⟨8, [.i .i64], false⟩] 1180591620717344196384
   (.seq (.seq (.rg [o1 26 (.copy 8),
     o1 27 (.copy 1),
     o1 28 (.len 27),
     o1 29 (.data (.bin .lss) [.t 26, .t 28])])
   (.cond (.t 29)
    .skip
    (.exit 4)))
   (.seq (.join [⟨5, [.sl [.i .i64]], false⟩] 1180591620713116337696 none (.block 5 (.seq (.rg [⟨true, [], [], .det 1 (.copy 5), [32], (some 32), none⟩,
     o1 33 (.copy 1),
     o1 34 (.copy 8),
     o1 35 (.index 33 (.t 34)),
     o1 36 (.idx (.t 35)),
     o1 37 (.load 33 [(0, 2)] 0 (.t 36) 1 false),
     o1 38 (.index 32 (.t 37)),
     o1 39 (.load 5 [(0, 1)] 0 (.t 38) 1 false),
     o1 9 (.copy 39)])
   (.seq (.rg [⟨true, [], [], .det 1 (.copy 5), [40], (some 40), none⟩,
     o1 41 (.copy 1),
     o1 42 (.copy 8),
     o1 43 (.index 41 (.t 42)),
     o1 44 (.idx (.t 43)),
     o1 45 (.load 41 [(0, 2)] 1 (.t 44) 1 false),
     o1 46 (.index 40 (.t 45)),
     o1 47 (.load 5 [(0, 1)] 0 (.t 46) 1 false),
     o1 10 (.copy 47)])
   (.seq (.join [⟨5, [.sl [.i .i64]], false⟩] 576180381133307936 none (.seq (.rg [o1 48 (.copy 9),
     o1 49 (.copy 10),
     o1 50 (.data (.bin .lss) [.t 48, .t 49])])
   (.cond (.t 50)
    (.rg [⟨true, [], [], .det 1 (.copy 5), [51], (some 51), none⟩,
      o1 52 (.copy 1),
      o1 53 (.copy 8),
      o1 54 (.index 52 (.t 53)),
      o1 55 (.idx (.t 54)),
      o1 56 (.load 52 [(0, 2)] 1 (.t 55) 1 false),
      o1 57 (.copy 9),
      o1 58 (.index 51 (.t 56)),
      o4 1 [5, 32, 40, 51] (.store 5 [(0, 1)] 0 (.t 58) (.t 57))])
    .skip)))
   (.seq (.rg [o1 59 (.copy 10),
     o1 60 (.copy 9),
     o1 61 (.data (.bin .lss) [.t 59, .t 60])])
   (.cond (.t 61)
    (.rg [⟨true, [], [], .det 1 (.copy 5), [62], (some 62), none⟩,
      o1 63 (.copy 1),
      o1 64 (.copy 8),
      o1 65 (.index 63 (.t 64)),
      o1 66 (.idx (.t 65)),
      o1 67 (.load 63 [(0, 2)] 0 (.t 66) 1 false),
      o1 68 (.copy 10),
      o1 69 (.index 62 (.t 67)),
      o4 1 [5, 62] (.store 5 [(0, 1)] 0 (.t 69) (.t 68))])
    .skip)))))))
   (.rg [o1 30 (.copy 8),
     o1 31 (.data (.bin .add) [.t 30, .c (.int .i64 (1))]),
     o1 8 (.copy 31)]))))))))
  (.rg [o1 24 (.copy 7),
    o1 25 (.data (.bin .add) [.t 24, .c (.int .i64 (1))]),
    o1 7 (.copy 25)])))))))
 (.seq (.rg [⟨false, [], [], .det 2 (.copy 5), [70, 5], (some 70), none⟩,
   ⟨false, [], [], .det 2 (.copy 70), [4, 70], (some 4), none⟩])
 .ret)))))
def s_sl05Labels : Sig := ⟨[.rd false [.d], .rd false [.sl (.own none) [.d, .d]]], (.one false [.sl (.own none) [.d]])⟩
noncomputable def E_sl05Labels : TEnv := envOf []
noncomputable def f_sl05Labels (n : Nat) : Int × (List (Int × Int)) → Option ((List (Int)) × Unit) := runFn n E_sl05Labels c_sl05Labels [[.i .i64], [.sl [.i .i64, .i .i64]]] [.sl [.i .i64]] [] [4] .no
noncomputable def g_sl05Labels := f_sl05Labels BIG
noncomputable def p_sl05Labels : TSp := ⟨s_sl05Labels, [[.i .i64], [.sl [.i .i64, .i .i64]]], [.sl [.i .i64]], [], Ou.j .no, g_sl05Labels⟩
theorem k_sl05Labels : chkW PG E_sl05Labels 148 s_sl05Labels (c_sl05Labels.ht 71) .no = some (c_sl05Labels.wc E_sl05Labels, [4]) := by kernel_rfl
theorem ok_sl05Labels : p_sl05Labels.Ok PG 148 := mkOk (env_nil PG) k_sl05Labels (by kernel_rfl)
theorem e_sl05Labels (n : Nat) (a0 : Int) (a1 : List (Int × Int)) : f_sl05Labels n (a0, a1) =
  Option.bind (loopT n (X := (List (Int)) × Int) (B := (List (Int))) (fun self1 x0 =>
    bif decide (x0.2 < a0) then
     bif decide (x0.1.length + [x0.2].length ≤ 4294967296) then
      self1 (x0.1 ++ [x0.2], IntKind.wrap .i64 (x0.2 + (1 : Int)))
     else none
    else some x0.1) ([], (0 : Int)) : Option ((List (Int)))) fun x2 =>
  Option.bind (loopT n (X := (List (Int)) × Int) (B := (List (Int))) (fun self4 x3 =>
    bif decide (x3.2 < a0) then
     Option.bind (loopT n (X := (List (Int)) × Int) (B := (List (Int))) (fun self6 x5 =>
       bif decide (x5.2 < (a1.length : Int)) then
        Option.bind (bnd a1.length x5.2 fun n7 =>
         Option.bind a1[n7]? fun y8 =>
         bnd x5.1.length y8.1 fun n9 =>
         Option.bind x5.1[n9]? fun y10 =>
         bnd a1.length x5.2 fun n11 =>
         Option.bind a1[n11]? fun y12 =>
         bnd x5.1.length y12.2 fun n13 =>
         Option.bind x5.1[n13]? fun y14 =>
         Option.bind (bif decide (y10 < y14) then
           bnd a1.length x5.2 fun n15 =>
           Option.bind a1[n15]? fun y16 =>
           bnd x5.1.length y16.2 fun n17 =>
           Option.bind x5.1[n17]? fun y18 =>
           some (x5.1.set n17 y10)
          else some x5.1 : Option ((List (Int)))) fun x19 =>
         bif decide (y14 < y10) then
          bnd a1.length x5.2 fun n20 =>
          Option.bind a1[n20]? fun y21 =>
          bnd x19.length y21.1 fun n22 =>
          Option.bind x19[n22]? fun y23 =>
          some (x19.set n22 y14)
         else some x19 : Option ((List (Int)))) fun x24 =>
        self6 (x24, IntKind.wrap .i64 (x5.2 + (1 : Int)))
       else some x5.1) (x3.1, (0 : Int)) : Option ((List (Int)))) fun x25 =>
     self4 (x25, IntKind.wrap .i64 (x3.2 + (1 : Int)))
    else some x3.1) (x2, (0 : Int)) : Option ((List (Int)))) fun x26 =>
  some (x26, ()) := by kernel_rfl
/- spec.Labels -/
def c_sLabels : TC :=
 (.seq (.rg [o1 1 (.a (.t 0)),
   o1 2 (.lit [.sl [.i .i64]] [.slice none 0 0])])
 (.seq (.seq (.rg [o1 3 (.load 1 [] 0 .nil 2 false),
   o3 4 18 [.t 3],
   o1 5 (.data .not [.t 4])])
 (.cond (.t 5)
  (.seq (.rg [o1 6 (.sli [.i .i64] []),
    ⟨false, [], [], .det 2 (.copy 6), [2, 6], (some 2), none⟩])
  .ret)
  .skip))
 (.seq (.rg [o1 7 (.idx .nil),
   o1 8 (.load 1 [] 0 (.t 7) 1 false),
   o1 9 (.idx .nil),
   o1 10 (.load 1 [] 1 (.t 9) 1 false),
   o3 11 148 [.t 8, .t 10],
   ⟨false, [], [], .det 2 (.copy 11), [2, 11], (some 2), none⟩])
 .ret)))
def s_sLabels : Sig := ⟨[.rd true [.d, .sl (.own none) [.d, .d]]], (.one false [.sl (.own none) [.d]])⟩
noncomputable def E_sLabels : TEnv := envOf [(18, p_sGraphOk), (148, p_sl05Labels)]
noncomputable def f_sLabels (n : Nat) : (Int × List (Int × Int)) → Option ((List (Int)) × Unit) := runFn n E_sLabels c_sLabels [[.i .i64, .sl [.i .i64, .i .i64]]] [.sl [.i .i64]] [] [2] .no
noncomputable def g_sLabels := f_sLabels BIG
noncomputable def p_sLabels : TSp := ⟨s_sLabels, [[.i .i64, .sl [.i .i64, .i .i64]]], [.sl [.i .i64]], [], Ou.j .no, g_sLabels⟩
theorem k_sLabels : chkW PG E_sLabels 112 s_sLabels (c_sLabels.ht 12) .no = some (c_sLabels.wc E_sLabels, [2]) := by kernel_rfl
theorem ok_sLabels : p_sLabels.Ok PG 112 := mkOk (env_cons ok_sGraphOk (env_cons ok_sl05Labels (env_nil PG))) k_sLabels (by kernel_rfl)
theorem e_sLabels (n : Nat) (a0 : Int × List (Int × Int)) : f_sLabels n a0 =
  Option.bind (g_sGraphOk a0) fun r0 =>
  bif !r0.1 then
   some ([], ())
  else Option.bind (g_sl05Labels (a0.1, a0.2)) fun r1 =>
  some (r1.1, ()) := by kernel_rfl
/- spec.l09Answer -/
def c_sl09Answer : TC :=
 (.seq (.rg [⟨false, [], [], .det 2 (.a (.c [.i .i64, .b, .sl [.i .i64, .i .i64], .sl [.i .i64]] [.int .i64 (0), .bool false, .slice none 0 0, .slice none 0 0])), [4, 1000000001], (some 4), none⟩])
 (.seq (.rg [o1 8 (.copy 1),
   o1 9 (.build [.i .i64, .sl [.i .i64, .i .i64]] [(0, .t 8)]),
   ⟨false, [], [], .det 2 (.a (.c [.i .i64, .sl [.i .i64, .i .i64]] [.int .i64 (0), .slice none 0 0])), [5, 1000000001], (some 5), none⟩,
   o4 2 [5, 9] (.store 5 [] 0 .nil (.t 9))])
 (.seq (.join [⟨0, [.sl [.i .u8], .i .i64, .i .i64], false⟩, ⟨5, [.i .i64, .sl [.i .i64, .i .i64]], false⟩] 268434657 none (.seq (.rg [o1 6 (.lit [.i .i64] [.int .i64 (0)])])
 (.block 0 (.loop [⟨0, [.sl [.i .u8], .i .i64, .i .i64], false⟩, ⟨5, [.i .i64, .sl [.i .i64, .i .i64]], false⟩, ⟨6, [.i .i64], false⟩] 268434657
  (.seq (.seq (.rg [o1 10 (.copy 6),
    o1 11 (.p0),
    ⟨false, [], [], .call 2 41 [.t 0, .c [.i .i64] [.int .i64 (8)]] (.mp 0), [12, 0], (some 12), none⟩,
    o1 13 (.data (.bin .lss) [.t 10, .t 12])])
  (.cond (.t 13)
   .skip
   (.exit 0)))
  (.seq (.join [⟨0, [.sl [.i .u8], .i .i64, .i .i64], false⟩, ⟨5, [.i .i64, .sl [.i .i64, .i .i64]], false⟩] 268370081 none (.block 1 (.seq (.rg [o1 16 (.p0),
    o1 17 (.copy 1),
    ⟨false, [], [], .call 2 146 [.t 0, .t 17] (.mp 0), [18, 0], (some 18), none⟩,
    ⟨false, [], [], .det 2 (.a (.c [.i .i64, .i .i64] [.int .i64 (0), .int .i64 (0)])), [7, 1000000001], (some 7), none⟩,
    o4 1 [7] (.store 7 [] 0 .nil (.t 18))])
  (.seq (.rg [o1 19 (.load 5 [] 0 .nil 2 true),
    o1 20 (.load 7 [] 0 .nil 2 false),
    o3 21 113 [.t 19, .t 20],
    o1 22 (.data .not [.t 21])])
  (.cond (.t 22)
   (.rg [o1 23 (.idx .nil),
     o1 24 (.load 5 [] 1 (.t 23) 1 true),
     o1 25 (.load 7 [] 0 .nil 2 false),
     o3 26 114 [.t 24, .t 25],
     o1 27 (.idx .nil),
     o4 2 [5, 26, 19, 24] (.store 5 [] 1 (.t 27) (.t 26))])
   .skip)))))
  (.rg [o1 14 (.copy 6),
    o1 15 (.data (.bin .add) [.t 14, .c (.int .i64 (1))]),
    o1 6 (.copy 15)])))))))
 (.seq (.rg [o1 28 (.p0),
   o1 31 (.p0),
   ⟨false, [], [], .call 2 41 [.t 0, .c [.i .i64] [.int .i64 (9)]] (.mp 0), [29, 0], (some 29), none⟩,
   ⟨false, [], [0], .det 1 (.data (.bin .add) [.c (.int .i64 (1)), .t 29]), [30], (some 30), none⟩,
   ⟨false, [], [], .call 2 52 [.t 0, .c [.i .i64] [.int .i64 (2)]] (.mp 0), [32, 0], (some 32), none⟩,
   ⟨false, [], [0], .det 1 (.idx .nil), [33], (some 33), none⟩,
   ⟨false, [], [0], .det 1 (.load 5 [] 1 (.t 33) 1 true), [34], (some 34), none⟩,
   ⟨false, [], [0], .det 1 (.load 5 [] 0 .nil 2 true), [35], (some 35), none⟩,
   o3 36 112 [.t 35],
   ⟨false, [34], [], .det 3 (.build [.i .i64, .b, .sl [.i .i64, .i .i64], .sl [.i .i64]] [(0, .t 30), (1, .t 32), (2, .t 34), (3, .t 36)]), [37, 34, 36, 34, 5, 35], (some 37), none⟩,
   o4 2 [4, 37] (.store 4 [] 0 .nil (.t 37))])
 .ret))))
def s_sl09Answer : Sig := ⟨[.mp [.sl (.ro []) [.d], .d, .d], .rd false [.d]], (.one true [.d, .d, .sl (.own none) [.d, .d], .sl (.own none) [.d]])⟩
noncomputable def E_sl09Answer : TEnv := envOf [(41, p_sl01Below), (146, p_sl05Edge), (113, p_sHasEdge), (114, p_sl05Put), (52, p_sl01Once), (112, p_sLabels)]
noncomputable def f_sl09Answer (n : Nat) : (List (Int) × Int × Int) × Int → Option ((Int × Bool × List (Int × Int) × List (Int)) × List (Int) × Int × Int) := runFn n E_sl09Answer c_sl09Answer [[.sl [.i .u8], .i .i64, .i .i64], [.i .i64]] [.i .i64, .b, .sl [.i .i64, .i .i64], .sl [.i .i64]] [.sl [.i .u8], .i .i64, .i .i64] [4] (.mp 0)
noncomputable def g_sl09Answer := f_sl09Answer BIG
noncomputable def p_sl09Answer : TSp := ⟨s_sl09Answer, [[.sl [.i .u8], .i .i64, .i .i64], [.i .i64]], [.i .i64, .b, .sl [.i .i64, .i .i64], .sl [.i .i64]], [.sl [.i .u8], .i .i64, .i .i64], Ou.j (.mp 0), g_sl09Answer⟩
theorem k_sl09Answer : chkW PG E_sl09Answer 127 s_sl09Answer (c_sl09Answer.ht 38) (.mp 0) = some (c_sl09Answer.wc E_sl09Answer, [4]) := by kernel_rfl
theorem ok_sl09Answer : p_sl09Answer.Ok PG 127 := mkOk (env_cons ok_sl01Below (env_cons ok_sl05Edge (env_cons ok_sHasEdge (env_cons ok_sl05Put (env_cons ok_sl01Once (env_cons ok_sLabels (env_nil PG))))))) k_sl09Answer (by kernel_rfl)
theorem e_sl09Answer (n : Nat) (a0 : List (Int) × Int × Int) (a1 : Int) : f_sl09Answer n (a0, a1) =
  Option.bind (loopT n (X := (List (Int) × Int × Int) × (Int × List (Int × Int)) × Int) (B := (List (Int) × Int × Int) × (Int × List (Int × Int))) (fun self1 x0 =>
    Option.bind (g_sl01Below (x0.1, (8 : Int))) fun r2 =>
    bif decide (x0.2.2 < r2.1) then
     Option.bind (Option.bind (g_sl05Edge (r2.2, a1)) fun r3 =>
      Option.bind (g_sHasEdge (x0.2.1, r3.1)) fun r4 =>
      bif !r4.1 then
       Option.bind (g_sl05Put (x0.2.1.2, r3.1)) fun r5 =>
       some (r3.2, (x0.2.1.1, r5.1))
      else some (r3.2, x0.2.1) : Option ((List (Int) × Int × Int) × (Int × List (Int × Int)))) fun x6 =>
     self1 (x6.1, x6.2, IntKind.wrap .i64 (x0.2.2 + (1 : Int)))
    else some (r2.2, x0.2.1)) (a0, (a1, []), (0 : Int)) : Option ((List (Int) × Int × Int) × (Int × List (Int × Int)))) fun x7 =>
  Option.bind (g_sl01Below (x7.1, (9 : Int))) fun r8 =>
  Option.bind (g_sl01Once (r8.2, (2 : Int))) fun r9 =>
  Option.bind (g_sLabels x7.2) fun r10 =>
  some ((IntKind.wrap .i64 ((1 : Int) + r8.1), r9.1, x7.2.2, r10.1), r9.2) := by kernel_rfl
/- spec.l09AnyAnswer -/
def c_sl09AnyAnswer : TC :=
 (.seq (.rg [⟨false, [], [], .det 2 (.a (.c [.i .i64, .b, .sl [.i .i64, .i .i64], .sl [.i .i64]] [.int .i64 (0), .bool false, .slice none 0 0, .slice none 0 0])), [4, 1000000001], (some 4), none⟩])
 (.seq (.rg [o1 6 (.p0),
   o1 7 (.copy 1),
   ⟨false, [], [], .call 2 127 [.t 0, .t 7] (.mp 0), [8, 0], (some 8), none⟩,
   ⟨false, [], [], .det 2 (.a (.c [.i .i64, .b, .sl [.i .i64, .i .i64], .sl [.i .i64]] [.int .i64 (0), .bool false, .slice none 0 0, .slice none 0 0])), [5, 1000000001], (some 5), none⟩,
   o4 2 [5, 8] (.store 5 [] 0 .nil (.t 8))])
 (.seq (.join [⟨0, [.sl [.i .u8], .i .i64, .i .i64], false⟩, ⟨5, [.i .i64, .b, .sl [.i .i64, .i .i64], .sl [.i .i64]], false⟩] 17592186043937 none (.seq (.rg [o1 9 (.p0),
   ⟨false, [], [], .call 2 41 [.t 0, .c [.i .i64] [.int .i64 (20)]] (.mp 0), [10, 0], (some 10), none⟩])
 (.block 0 (.seq (.rg [o1 12 (.data (.bin .eql) [.t 10, .c (.int .i64 (0))]),
   o1 11 (.copy 12)])
 (.cond (.t 11)
  (.rg [o1 13 (.p0),
    ⟨false, [], [], .det 5 (.sli [.i .i64] [.c [.i .i64] [.int .i64 (0)], .c [.i .i64] [.int .i64 (-1)], .c [.i .i64] [.int .i64 (100000)], .c [.i .i64] [.int .i64 (100001)]]), [14, 1000000001, 1000000002, 1000000003, 1000000004], (some 14), none⟩,
    ⟨false, [], [], .call 2 84 [.t 0, .t 14] (.mp 0), [15, 0], (some 15), none⟩,
    o1 16 (.idx .nil),
    o4 1 [5] (.store 5 [] 0 (.t 16) (.t 15))])
  (.seq (.rg [o1 18 (.data (.bin .eql) [.t 10, .c (.int .i64 (1))]),
    o1 17 (.copy 18)])
  (.cond (.t 17)
   (.rg [o1 21 (.p0),
     o1 22 (.copy 1),
     o1 24 (.p0),
     ⟨false, [], [0, 1000000001, 1000000002, 1000000003, 1000000004], .det 1 (.idx .nil), [19], (some 19), none⟩,
     ⟨false, [], [0, 1000000001, 1000000002, 1000000003, 1000000004], .det 1 (.load 5 [] 3 (.t 19) 1 true), [20], (some 20), none⟩,
     ⟨false, [], [1000000001, 1000000002, 1000000003, 1000000004], .call 2 41 [.t 0, .t 22] (.mp 0), [23, 0], (some 23), none⟩,
     ⟨false, [], [0], .det 5 (.sli [.i .i64] [.c [.i .i64] [.int .i64 (-1)], .c [.i .i64] [.int .i64 (0)], .c [.i .i64] [.int .i64 (1)], .c [.i .i64] [.int .i64 (11)]]), [25, 1000000001, 1000000002, 1000000003, 1000000004], (some 25), none⟩,
     ⟨false, [], [], .call 2 84 [.t 0, .t 25] (.mp 0), [26, 0], (some 26), none⟩,
     o1 27 (.index 20 (.t 23)),
     o4 1 [5, 20] (.store 5 [(3, 1)] 0 (.t 27) (.t 26))])
   (.seq (.rg [o1 29 (.data (.bin .eql) [.t 10, .c (.int .i64 (2))]),
     o1 28 (.copy 29)])
   (.cond (.t 28)
    (.rg [o1 30 (.idx .nil),
      o1 31 (.load 5 [] 3 (.t 30) 1 true),
      ⟨true, [31], [], .det 2 (.res 31 (some (.c (.int .i64 (1)))) none), [32, 31, 31, 5], (some 32), none⟩,
      o1 33 (.idx .nil),
      o4 2 [5, 32, 31] (.store 5 [] 3 (.t 33) (.t 32))])
    (.seq (.rg [o1 35 (.data (.bin .eql) [.t 10, .c (.int .i64 (3))]),
      o1 34 (.copy 35)])
    (.cond (.t 34)
     (.rg [o1 38 (.p0),
       ⟨false, [], [0], .det 1 (.idx .nil), [36], (some 36), none⟩,
       ⟨false, [], [0], .det 1 (.load 5 [] 2 (.t 36) 1 true), [37], (some 37), none⟩,
       o1 39 (.build [.i .i64, .sl [.i .i64, .i .i64]] []),
       ⟨false, [], [], .call 2 106 [.t 0, .t 39] (.mp 0), [40, 0], (some 40), none⟩,
       o1 41 (.sli [.i .i64, .i .i64] [.t 40]),
       ⟨false, [37], [], .det 2 (.app (some 37) 41), [42, 37, 37, 5], (some 42), none⟩,
       o1 43 (.idx .nil),
       o4 2 [5, 42, 37] (.store 5 [] 2 (.t 43) (.t 42))])
     .skip)))))))))))
 (.seq (.rg [o1 44 (.load 5 [] 0 .nil 4 true),
   ⟨false, [44], [], .det 2 (.store 4 [] 0 .nil (.t 44)), [4, 44, 44, 5], none, none⟩])
 .ret))))
def s_sl09AnyAnswer : Sig := ⟨[.mp [.sl (.ro []) [.d], .d, .d], .rd false [.d]], (.one true [.d, .d, .sl (.own none) [.d, .d], .sl (.own none) [.d]])⟩
noncomputable def E_sl09AnyAnswer : TEnv := envOf [(127, p_sl09Answer), (41, p_sl01Below), (84, p_sl01PickInt), (106, p_sl05AnyEdge)]
noncomputable def f_sl09AnyAnswer (n : Nat) : (List (Int) × Int × Int) × Int → Option ((Int × Bool × List (Int × Int) × List (Int)) × List (Int) × Int × Int) := runFn n E_sl09AnyAnswer c_sl09AnyAnswer [[.sl [.i .u8], .i .i64, .i .i64], [.i .i64]] [.i .i64, .b, .sl [.i .i64, .i .i64], .sl [.i .i64]] [.sl [.i .u8], .i .i64, .i .i64] [4] (.mp 0)
noncomputable def g_sl09AnyAnswer := f_sl09AnyAnswer BIG
noncomputable def p_sl09AnyAnswer : TSp := ⟨s_sl09AnyAnswer, [[.sl [.i .u8], .i .i64, .i .i64], [.i .i64]], [.i .i64, .b, .sl [.i .i64, .i .i64], .sl [.i .i64]], [.sl [.i .u8], .i .i64, .i .i64], Ou.j (.mp 0), g_sl09AnyAnswer⟩
theorem k_sl09AnyAnswer : chkW PG E_sl09AnyAnswer 83 s_sl09AnyAnswer (c_sl09AnyAnswer.ht 45) (.mp 0) = some (c_sl09AnyAnswer.wc E_sl09AnyAnswer, [4]) := by kernel_rfl
theorem ok_sl09AnyAnswer : p_sl09AnyAnswer.Ok PG 83 := mkOk (env_cons ok_sl09Answer (env_cons ok_sl01Below (env_cons ok_sl01PickInt (env_cons ok_sl05AnyEdge (env_nil PG))))) k_sl09AnyAnswer (by kernel_rfl)
theorem e_sl09AnyAnswer (n : Nat) (a0 : List (Int) × Int × Int) (a1 : Int) : f_sl09AnyAnswer n (a0, a1) =
  Option.bind (g_sl09Answer (a0, a1)) fun r0 =>
  Option.bind (Option.bind (g_sl01Below (r0.2, (20 : Int))) fun r1 =>
   bif decide (r1.1 = (0 : Int)) then
    Option.bind (g_sl01PickInt (r1.2, [(0 : Int), (-1 : Int), (100000 : Int), (100001 : Int)])) fun r2 =>
    some (r2.2, (r2.1, r0.1.2))
   else bif decide (r1.1 = (1 : Int)) then
    Option.bind (g_sl01Below (r1.2, a1)) fun r3 =>
    Option.bind (g_sl01PickInt (r3.2, [(-1 : Int), (0 : Int), (1 : Int), (11 : Int)])) fun r4 =>
    bnd r0.1.2.2.2.length r3.1 fun n5 =>
    Option.bind r0.1.2.2.2[n5]? fun y6 =>
    some (r4.2, (r0.1.1, r0.1.2.1, r0.1.2.2.1, r0.1.2.2.2.set n5 r4.1))
   else bif decide (r1.1 = (2 : Int)) then
    bif decide (0 ≤ (1 : Int)) then
     bif decide ((Int.toNat (1 : Int)) ≤ r0.1.2.2.2.length ∧ r0.1.2.2.2.length ≤ r0.1.2.2.2.length) then
      some (r1.2, (r0.1.1, r0.1.2.1, r0.1.2.2.1, List.take (r0.1.2.2.2.length - (Int.toNat (1 : Int))) (List.drop (Int.toNat (1 : Int)) r0.1.2.2.2)))
     else none
    else none
   else bif decide (r1.1 = (3 : Int)) then
    Option.bind (g_sl05AnyEdge (r1.2, ((0 : Int), []))) fun r7 =>
    bif decide (r0.1.2.2.1.length + [r7.1].length ≤ 4294967296) then
     some (r7.2, (r0.1.1, r0.1.2.1, r0.1.2.2.1 ++ [r7.1], r0.1.2.2.2))
    else none
   else some (r1.2, r0.1) : Option ((List (Int) × Int × Int) × (Int × Bool × List (Int × Int) × List (Int)))) fun x8 =>
  some (x8.2, x8.1) := by kernel_rfl
/- spec.DrawAnswerOk -/
def c_sDrawAnswerOk : TC :=
 (.seq (.rg [o1 2 (.lit [.i .i64] [.int .i64 (0)]),
   ⟨false, [], [], .det 2 (.a (.c [.i .i64, .b, .sl [.i .i64, .i .i64], .sl [.i .i64]] [.int .i64 (0), .bool false, .slice none 0 0, .slice none 0 0])), [3, 1000000001], (some 3), none⟩])
 (.seq (.rg [o1 7 (.copy 0),
   o3 8 39 [.t 7],
   o1 4 (.p0)])
 (.seq (.rg [o1 9 (.same 4),
   ⟨false, [], [], .call 2 75 [.t 8] (.mp 0), [10, 8], (some 10), none⟩,
   o1 5 (.copy 10)])
 (.seq (.rg [o1 11 (.same 4),
   o1 12 (.copy 5),
   ⟨false, [], [], .call 2 83 [.t 8, .t 12] (.mp 0), [13, 8], (some 13), none⟩,
   ⟨false, [], [], .det 2 (.a (.c [.i .i64, .b, .sl [.i .i64, .i .i64], .sl [.i .i64]] [.int .i64 (0), .bool false, .slice none 0 0, .slice none 0 0])), [6, 1000000001], (some 6), none⟩,
   o4 2 [6, 13] (.store 6 [] 0 .nil (.t 13))])
 (.seq (.join [⟨5, [.i .i64], false⟩] 508192 none (.seq (.rg [o1 14 (.same 4),
   ⟨false, [], [], .call 2 52 [.t 8, .c [.i .i64] [.int .i64 (15)]] (.mp 0), [15, 8], (some 15), none⟩])
 (.cond (.t 15)
  (.rg [o1 16 (.same 4),
    ⟨false, [], [], .det 4 (.sli [.i .i64] [.c [.i .i64] [.int .i64 (0)], .c [.i .i64] [.int .i64 (1)], .c [.i .i64] [.int .i64 (13)]]), [17, 1000000001, 1000000002, 1000000003], (some 17), none⟩,
    ⟨false, [], [], .call 2 84 [.t 8, .t 17] (.mp 0), [18, 8], (some 18), none⟩,
    o1 5 (.copy 18)])
  .skip)))
 (.seq (.rg [o1 19 (.copy 5),
   o1 20 (.load 6 [] 0 .nil 4 true),
   o1 2 (.copy 19),
   ⟨false, [20], [], .det 2 (.store 3 [] 0 .nil (.t 20)), [3, 20, 20, 6], none, none⟩])
 .ret))))))
def s_sDrawAnswerOk : Sig := ⟨[.rd false [.sl (.own none) [.d]]], (.tup [(false, 1), (true, 4)] [.d, .d, .d, .sl (.own none) [.d, .d], .sl (.own none) [.d]])⟩
noncomputable def E_sDrawAnswerOk : TEnv := envOf [(39, p_sl01New), (75, p_sl09N), (83, p_sl09AnyAnswer), (52, p_sl01Once), (84, p_sl01PickInt)]
noncomputable def f_sDrawAnswerOk (n : Nat) : List (Int) → Option ((Int × Int × Bool × List (Int × Int) × List (Int)) × Unit) := runFn n E_sDrawAnswerOk c_sDrawAnswerOk [[.sl [.i .u8]]] [.i .i64, .i .i64, .b, .sl [.i .i64, .i .i64], .sl [.i .i64]] [] [2, 3] .no
noncomputable def g_sDrawAnswerOk := f_sDrawAnswerOk BIG
noncomputable def p_sDrawAnswerOk : TSp := ⟨s_sDrawAnswerOk, [[.sl [.i .u8]]], [.i .i64, .i .i64, .b, .sl [.i .i64, .i .i64], .sl [.i .i64]], [], Ou.j .no, g_sDrawAnswerOk⟩
theorem k_sDrawAnswerOk : chkW PG E_sDrawAnswerOk 72 s_sDrawAnswerOk (c_sDrawAnswerOk.ht 21) .no = some (c_sDrawAnswerOk.wc E_sDrawAnswerOk, [2, 3]) := by kernel_rfl
theorem ok_sDrawAnswerOk : p_sDrawAnswerOk.Ok PG 72 := mkOk (env_cons ok_sl01New (env_cons ok_sl09N (env_cons ok_sl09AnyAnswer (env_cons ok_sl01Once (env_cons ok_sl01PickInt (env_nil PG)))))) k_sDrawAnswerOk (by kernel_rfl)
theorem e_sDrawAnswerOk (n : Nat) (a0 : List (Int)) : f_sDrawAnswerOk n a0 =
  Option.bind (g_sl01New a0) fun r0 =>
  Option.bind (g_sl09N r0.1) fun r1 =>
  Option.bind (g_sl09AnyAnswer (r1.2, r1.1)) fun r2 =>
  Option.bind (Option.bind (g_sl01Once (r2.2, (15 : Int))) fun r3 =>
   bif r3.1 then
    Option.bind (g_sl01PickInt (r3.2, [(0 : Int), (1 : Int), (13 : Int)])) fun r4 =>
    some r4.1
   else some r1.1 : Option (Int)) fun x5 =>
  some ((x5, r2.1), ()) := by kernel_rfl
/- spec.DrawAnswerText -/
def c_sDrawAnswerText : TC :=
 (.seq (.rg [o1 2 (.lit [.i .i64] [.int .i64 (0)]),
   ⟨false, [], [], .det 2 (.a (.c [.i .i64, .b, .sl [.i .i64, .i .i64], .sl [.i .i64]] [.int .i64 (0), .bool false, .slice none 0 0, .slice none 0 0])), [3, 1000000001], (some 3), none⟩])
 (.seq (.rg [o1 4 (.copy 0),
   o3 5 72 [.t 4],
   o1 6 (.ext 5 0 1),
   ⟨false, [], [], .det 2 (.ext 5 1 4), [7, 5], (some 7), none⟩,
   o1 2 (.copy 6),
   o4 2 [3, 7] (.store 3 [] 0 .nil (.t 7))])
 .ret))
def s_sDrawAnswerText : Sig := ⟨[.rd false [.sl (.own none) [.d]]], (.tup [(false, 1), (true, 4)] [.d, .d, .d, .sl (.own none) [.d, .d], .sl (.own none) [.d]])⟩
noncomputable def E_sDrawAnswerText : TEnv := envOf [(72, p_sDrawAnswerOk)]
noncomputable def f_sDrawAnswerText (n : Nat) : List (Int) → Option ((Int × Int × Bool × List (Int × Int) × List (Int)) × Unit) := runFn n E_sDrawAnswerText c_sDrawAnswerText [[.sl [.i .u8]]] [.i .i64, .i .i64, .b, .sl [.i .i64, .i .i64], .sl [.i .i64]] [] [2, 3] .no
noncomputable def g_sDrawAnswerText := f_sDrawAnswerText BIG
noncomputable def p_sDrawAnswerText : TSp := ⟨s_sDrawAnswerText, [[.sl [.i .u8]]], [.i .i64, .i .i64, .b, .sl [.i .i64, .i .i64], .sl [.i .i64]], [], Ou.j .no, g_sDrawAnswerText⟩
theorem k_sDrawAnswerText : chkW PG E_sDrawAnswerText 24 s_sDrawAnswerText (c_sDrawAnswerText.ht 8) .no = some (c_sDrawAnswerText.wc E_sDrawAnswerText, [2, 3]) := by kernel_rfl
theorem ok_sDrawAnswerText : p_sDrawAnswerText.Ok PG 24 := mkOk (env_cons ok_sDrawAnswerOk (env_nil PG)) k_sDrawAnswerText (by kernel_rfl)
theorem e_sDrawAnswerText (n : Nat) (a0 : List (Int)) : f_sDrawAnswerText n a0 =
  Option.bind (g_sDrawAnswerOk a0) fun r0 =>
  some (r0.1, ()) := by kernel_rfl
/- impl.labelsOk -/
def c_ilabelsOk : TC :=
 (.seq (.rg [o1 4 (.lit [.b] [.bool false])])
 (.seq (.seq (.rg [o1 7 (.copy 1),
   o1 8 (.len 7),
   o1 9 (.copy 0),
   o1 10 (.data (.bin .neq) [.t 8, .t 9])])
 (.cond (.t 10)
  (.seq (.rg [o1 4 (.lit [.b] [.bool false])])
  .ret)
  .skip))
 (.seq (.join [] 2147481712 (some [⟨4, [.b], false⟩]) (.seq (.rg [o1 11 (.copy 1),
   o1 12 (.len 11),
   o1 13 (.lit [.i .i64] [.int .i64 (0)])])
 (.block 0 (.loop [⟨13, [.i .i64], false⟩] 2147475568
  (.seq (.rg [o1 14 (.data (.bin .lss) [.t 13, .t 12])])
  (.seq (.cond (.t 14)
   .skip
   (.exit 0))
  (.seq (.join [] 1073709168 (some [⟨4, [.b], false⟩]) (.block 1 (.seq (.rg [o1 15 (.copy 13),
    o1 16 (.index 11 (.t 13)),
    o1 17 (.load 11 [(0, 1)] 0 (.t 16) 1 false),
    o1 5 (.copy 15),
    o1 6 (.copy 17)])
  (.seq (.join [⟨29, [.b], false⟩] 1073479680 none (.rg [o1 18 (.copy 6),
    o1 19 (.copy 5),
    o3 20 42 [.t 18, .c [.i .i64] [.int .i64 (0)], .t 19],
    o1 21 (.data .not [.t 20]),
    o1 22 (.copy 21),
    o2 23 (.copy 1) 4 false,
    o2 24 (.copy 6) 4 false,
    o2 25 (.index 23 (.t 24)) 4 false,
    o2 26 (.load 23 [(0, 1)] 0 (.t 25) 1 false) 4 false,
    o2 27 (.copy 6) 4 false,
    o2 28 (.data (.bin .neq) [.t 26, .t 27]) 4 false,
    ⟨false, [], [], .pick 22 (.c (.bool true)) (.t 28), [29], (some 29), none⟩]))
  (.cond (.t 29)
   (.seq (.rg [o1 4 (.lit [.b] [.bool false])])
   .ret)
   .skip)))))
  (.rg [o1 30 (.data (.bin .add) [.t 13, .c (.int .i64 (1))]),
    o1 13 (.copy 30)]))))))))
 (.seq (.rg [o1 4 (.lit [.b] [.bool true])])
 .ret))))
def s_ilabelsOk : Sig := ⟨[.rd false [.d], .rd false [.sl (.own none) [.d]]], (.one false [.d])⟩
noncomputable def E_ilabelsOk : TEnv := envOf [(42, p_iin)]
noncomputable def f_ilabelsOk (n : Nat) : Int × List (Int) → Option ((Bool) × Unit) := runFn n E_ilabelsOk c_ilabelsOk [[.i .i64], [.sl [.i .i64]]] [.b] [] [4] .no
noncomputable def g_ilabelsOk := f_ilabelsOk BIG
noncomputable def p_ilabelsOk : TSp := ⟨s_ilabelsOk, [[.i .i64], [.sl [.i .i64]]], [.b], [], Ou.j .no, g_ilabelsOk⟩
theorem k_ilabelsOk : chkW PG E_ilabelsOk 74 s_ilabelsOk (c_ilabelsOk.ht 31) .no = some (c_ilabelsOk.wc E_ilabelsOk, [4]) := by kernel_rfl
theorem ok_ilabelsOk : p_ilabelsOk.Ok PG 74 := mkOk (env_cons ok_iin (env_nil PG)) k_ilabelsOk (by kernel_rfl)
theorem e_ilabelsOk (n : Nat) (a0 : Int) (a1 : List (Int)) : f_ilabelsOk n (a0, a1) =
  bif !decide ((a1.length : Int) = a0) then
   some (false, ())
  else Option.bind (loopT n (X := Int) (B := (Unit) ⊕ (Bool)) (fun self1 x0 =>
    bif decide (x0 < (a1.length : Int)) then
     Option.bind (bnd a1.length x0 fun n2 =>
      Option.bind a1[n2]? fun y3 =>
      Option.bind (Option.bind (g_iin (y3, (0 : Int), x0)) fun r4 =>
       bif !r4.1 then
        some true
       else bnd a1.length y3 fun n5 =>
       Option.bind a1[n5]? fun y6 =>
       some (!decide (y6 = y3)) : Option (Bool)) fun x7 =>
      bif x7 then
       some (Sum.inr false)
      else some (Sum.inl ()) : Option ((Unit) ⊕ (Bool))) fun y => match y with
     | .inl x8 =>
      self1 (IntKind.wrap .i64 (x0 + (1 : Int)))
     | .inr x8 =>
      some (Sum.inr x8)
    else some (Sum.inl ())) (0 : Int) : Option ((Unit) ⊕ (Bool))) fun y => match y with
  | .inl x9 =>
   some (true, ())
  | .inr x9 =>
   some (x9, ()) := by kernel_rfl
/- impl.AnswerOk -/
def c_iAnswerOk : TC :=
 (.seq (.rg [o1 3 (.a (.t 1)),
   o1 4 (.lit [.b] [.bool false])])
 (.seq (.join [⟨4, [.b], false⟩] 16777200 none (.rg [o1 5 (.copy 0),
   o3 6 42 [.t 5, .c [.i .i64] [.int .i64 (1)], .c [.i .i64] [.int .i64 (12)]],
   o1 7 (.copy 6),
   o2 8 (.idx .nil) 2 true,
   o2 9 (.load 3 [] 0 (.t 8) 1 false) 2 true,
   ⟨false, [], [], .call 1 42 [.t 9, .c [.i .i64] [.int .i64 (1)], .c [.i .i64] [.int .i64 (100000)]] .no, [10], (some 10), some (2, true)⟩,
   ⟨false, [], [], .pick 7 (.t 10) (.c (.bool false)), [11], (some 11), none⟩,
   o1 12 (.copy 11),
   o2 13 (.copy 0) 7 true,
   o2 14 (.idx .nil) 7 true,
   o2 15 (.load 3 [] 2 (.t 14) 1 false) 7 true,
   ⟨false, [], [], .call 1 71 [.t 13, .t 15] .no, [16], (some 16), some (7, true)⟩,
   ⟨false, [], [], .pick 12 (.t 16) (.c (.bool false)), [17], (some 17), none⟩,
   o1 18 (.copy 17),
   o2 19 (.copy 0) 13 true,
   o2 20 (.idx .nil) 13 true,
   o2 21 (.load 3 [] 3 (.t 20) 1 false) 13 true,
   ⟨false, [], [], .call 1 74 [.t 19, .t 21] .no, [22], (some 22), some (13, true)⟩,
   ⟨false, [], [], .pick 18 (.t 22) (.c (.bool false)), [23], (some 23), none⟩,
   o1 4 (.copy 23)]))
 .ret))
def s_iAnswerOk : Sig := ⟨[.rd false [.d], .rd true [.d, .d, .sl (.own none) [.d, .d], .sl (.own none) [.d]]], (.one false [.d])⟩
noncomputable def E_iAnswerOk : TEnv := envOf [(42, p_iin), (71, p_iedgesOk), (74, p_ilabelsOk)]
noncomputable def f_iAnswerOk (n : Nat) : Int × (Int × Bool × List (Int × Int) × List (Int)) → Option ((Bool) × Unit) := runFn n E_iAnswerOk c_iAnswerOk [[.i .i64], [.i .i64, .b, .sl [.i .i64, .i .i64], .sl [.i .i64]]] [.b] [] [4] .no
noncomputable def g_iAnswerOk := f_iAnswerOk BIG
noncomputable def p_iAnswerOk : TSp := ⟨s_iAnswerOk, [[.i .i64], [.i .i64, .b, .sl [.i .i64, .i .i64], .sl [.i .i64]]], [.b], [], Ou.j .no, g_iAnswerOk⟩
theorem k_iAnswerOk : chkW PG E_iAnswerOk 28 s_iAnswerOk (c_iAnswerOk.ht 24) .no = some (c_iAnswerOk.wc E_iAnswerOk, [4]) := by kernel_rfl
theorem ok_iAnswerOk : p_iAnswerOk.Ok PG 28 := mkOk (env_cons ok_iin (env_cons ok_iedgesOk (env_cons ok_ilabelsOk (env_nil PG)))) k_iAnswerOk (by kernel_rfl)
theorem e_iAnswerOk (n : Nat) (a0 : Int) (a1 : Int × Bool × List (Int × Int) × List (Int)) : f_iAnswerOk n (a0, a1) =
  Option.bind (Option.bind (g_iin (a0, (1 : Int), (12 : Int))) fun r0 =>
   bif r0.1 then
    Option.bind (g_iin (a1.1, (1 : Int), (100000 : Int))) fun r1 =>
    bif r1.1 then
     Option.bind (g_iedgesOk (a0, a1.2.2.1)) fun r2 =>
     bif r2.1 then
      Option.bind (g_ilabelsOk (a0, a1.2.2.2)) fun r3 =>
      some r3.1
     else some false
    else some false
   else some false : Option (Bool)) fun x4 =>
  some (x4, ()) := by kernel_rfl
/- impl.AnswerText -/
def c_iAnswerText : TC :=
 (.seq (.rg [o1 3 (.a (.t 1)),
   o1 4 (.lit [.s] [.string ⟨#[]⟩]),
   o1 5 (.lit [.b] [.bool false])])
 (.seq (.seq (.rg [o1 12 (.copy 0),
   o1 13 (.load 3 [] 0 .nil 4 false),
   o3 14 28 [.t 12, .t 13],
   o1 15 (.data .not [.t 14])])
 (.cond (.t 15)
  (.seq (.rg [o1 4 (.lit [.s] [.string ⟨#[]⟩]),
    o1 5 (.lit [.b] [.bool false])])
  .ret)
  .skip))
 (.seq (.rg [o1 17 (.idx .nil),
   o1 18 (.load 3 [] 0 (.t 17) 1 false),
   o3 19 65 [.t 18],
   ⟨false, [], [], .det 2 (.copy 19), [16, 19], (some 16), none⟩,
   o1 20 (.ext 16 0 1),
   o1 21 (.ext 16 1 1),
   o1 6 (.copy 20),
   o1 7 (.copy 21)])
 (.seq (.rg [o1 8 (.lit [.s] [.string ⟨#[0]⟩])])
 (.seq (.join [⟨8, [.s], false⟩] 12583168 none (.seq (.rg [o1 22 (.idx .nil),
   o1 23 (.load 3 [] 1 (.t 22) 1 false)])
 (.cond (.t 23)
  (.rg [o1 8 (.lit [.s] [.string ⟨#[1]⟩])])
  .skip)))
 (.seq (.rg [o1 24 (.copy 6),
   o1 25 (.copy 8),
   o1 26 (.data (.bin .add) [.t 24, .t 25]),
   o1 27 (.idx .nil),
   o1 28 (.load 3 [] 2 (.t 27) 1 false),
   o3 29 66 [.t 28],
   o1 30 (.data (.bin .add) [.t 26, .t 29]),
   o1 9 (.copy 30)])
 (.seq (.join [⟨9, [.s], false⟩] 35182224607744 none (.seq (.rg [o1 31 (.idx .nil),
   o1 32 (.load 3 [] 3 (.t 31) 1 false),
   o1 33 (.len 32),
   o1 34 (.lit [.i .i64] [.int .i64 (0)])])
 (.block 0 (.loop [⟨9, [.s], false⟩, ⟨34, [.i .i64], false⟩] 35167192222208
  (.seq (.rg [o1 35 (.data (.bin .lss) [.t 34, .t 33])])
  (.seq (.cond (.t 35)
   .skip
   (.exit 0))
  (.seq (.block 1 (.seq (.rg [o1 36 (.index 32 (.t 34)),
    o1 37 (.load 32 [(0, 1)] 0 (.t 36) 1 false),
    o1 11 (.copy 37)])
  (.rg [o1 38 (.copy 9),
    o1 39 (.copy 11),
    o1 40 (.data (.conv .u8) [.t 39]),
    o1 41 (.sli [.i .u8] [.t 40]),
    o1 42 (.bytes 41),
    o1 43 (.data (.bin .add) [.t 38, .t 42]),
    o1 9 (.copy 43)])))
  (.rg [o1 44 (.data (.bin .add) [.t 34, .c (.int .i64 (1))]),
    o1 34 (.copy 44)]))))))))
 (.seq (.rg [o1 45 (.copy 9),
   o1 4 (.copy 45),
   o1 5 (.lit [.b] [.bool true])])
 .ret))))))))
def s_iAnswerText : Sig := ⟨[.rd false [.d], .rd true [.d, .d, .sl (.own none) [.d, .d], .sl (.own none) [.d]]], (.tup [(false, 1), (false, 1)] [.d, .d])⟩
noncomputable def E_iAnswerText : TEnv := envOf [(28, p_iAnswerOk), (65, p_iVarText), (66, p_iedgesText)]
noncomputable def f_iAnswerText (n : Nat) : Int × (Int × Bool × List (Int × Int) × List (Int)) → Option ((ByteArray × Bool) × Unit) := runFn n E_iAnswerText c_iAnswerText [[.i .i64], [.i .i64, .b, .sl [.i .i64, .i .i64], .sl [.i .i64]]] [.s, .b] [] [4, 5] .no
noncomputable def g_iAnswerText := f_iAnswerText BIG
noncomputable def p_iAnswerText : TSp := ⟨s_iAnswerText, [[.i .i64], [.i .i64, .b, .sl [.i .i64, .i .i64], .sl [.i .i64]]], [.s, .b], [], Ou.j .no, g_iAnswerText⟩
theorem k_iAnswerText : chkW PG E_iAnswerText 25 s_iAnswerText (c_iAnswerText.ht 46) .no = some (c_iAnswerText.wc E_iAnswerText, [4, 5]) := by kernel_rfl
theorem ok_iAnswerText : p_iAnswerText.Ok PG 25 := mkOk (env_cons ok_iAnswerOk (env_cons ok_iVarText (env_cons ok_iedgesText (env_nil PG)))) k_iAnswerText (by kernel_rfl)
theorem e_iAnswerText (n : Nat) (a0 : Int) (a1 : Int × Bool × List (Int × Int) × List (Int)) : f_iAnswerText n (a0, a1) =
  Option.bind (g_iAnswerOk (a0, a1)) fun r0 =>
  bif !r0.1 then
   some (((ByteArray.mk #[]), false), ())
  else Option.bind (g_iVarText a1.1) fun r1 =>
  Option.bind (bif a1.2.1 then
    some (ByteArray.mk #[1])
   else some (ByteArray.mk #[0]) : Option (ByteArray)) fun x2 =>
  bif decide (r1.1.1.size + x2.size ≤ 4611686018427387904) then
   Option.bind (g_iedgesText a1.2.2.1) fun r3 =>
   bif decide ((r1.1.1 ++ x2).size + r3.1.size ≤ 4611686018427387904) then
    Option.bind (loopT n (X := ByteArray × Int) (B := ByteArray) (fun self5 x4 =>
      bif decide (x4.2 < (a1.2.2.2.length : Int)) then
       bnd a1.2.2.2.length x4.2 fun n6 =>
       Option.bind a1.2.2.2[n6]? fun y7 =>
       bif decide (x4.1.size + (bytesStr ([IntKind.wrap .u8 (y7)])).size ≤ 4611686018427387904) then
        self5 (x4.1 ++ (bytesStr ([IntKind.wrap .u8 (y7)])), IntKind.wrap .i64 (x4.2 + (1 : Int)))
       else none
      else some x4.1) ((r1.1.1 ++ x2) ++ r3.1, (0 : Int)) : Option (ByteArray)) fun x8 =>
    some ((x8, true), ())
   else none
  else none := by kernel_rfl
/- impl.ReadAnswer -/
def c_iReadAnswer : TC :=
 (.seq (.rg [⟨false, [], [], .det 2 (.a (.c [.i .i64, .b, .sl [.i .i64, .i .i64], .sl [.i .i64]] [.int .i64 (0), .bool false, .slice none 0 0, .slice none 0 0])), [4, 1000000001], (some 4), none⟩,
   o1 5 (.lit [.b] [.bool false])])
 (.seq (.seq (.rg [o1 10 (.copy 0),
   o3 11 42 [.t 10, .c [.i .i64] [.int .i64 (1)], .c [.i .i64] [.int .i64 (12)]],
   o1 12 (.data .not [.t 11])])
 (.cond (.t 12)
  (.seq (.rg [o1 13 (.build [.i .i64, .b, .sl [.i .i64, .i .i64], .sl [.i .i64]] []),
    o4 2 [4, 13] (.store 4 [] 0 .nil (.t 13)),
    o1 5 (.lit [.b] [.bool false])])
  .ret)
  .skip))
 (.seq (.rg [o1 14 (.copy 1),
   o1 15 (.build [.s, .i .i64, .b] [(0, .t 14)]),
   o1 16 (.a (.t 15)),
   o1 6 (.p0)])
 (.seq (.rg [⟨false, [], [], .det 2 (.a (.c [.i .i64, .b, .sl [.i .i64, .i .i64], .sl [.i .i64]] [.int .i64 (0), .bool false, .slice none 0 0, .slice none 0 0])), [7, 1000000001], (some 7), none⟩])
 (.seq (.rg [o1 17 (.same 6),
   ⟨false, [], [], .call 2 67 [.t 16] (.mp 0), [18, 16], (some 18), none⟩,
   o1 19 (.idx .nil),
   o4 1 [7] (.store 7 [] 0 (.t 19) (.t 18))])
 (.seq (.rg [o1 20 (.same 6),
   ⟨false, [], [], .call 2 68 [.t 16] (.mp 0), [21, 16], (some 21), none⟩,
   o1 8 (.copy 21)])
 (.seq (.rg [o1 22 (.copy 8),
   o1 23 (.data (.bin .eql) [.t 22, .c (.int .i64 (1))]),
   o1 24 (.idx .nil),
   o4 1 [7] (.store 7 [] 1 (.t 24) (.t 23))])
 (.seq (.rg [o1 25 (.same 6),
   ⟨false, [], [], .call 2 69 [.t 16] (.mp 0), [26, 16], (some 26), none⟩,
   o1 27 (.idx .nil),
   o4 2 [7, 26] (.store 7 [] 2 (.t 27) (.t 26))])
 (.seq (.join [⟨16, [.s, .i .i64, .b], false⟩, ⟨7, [.i .i64, .b, .sl [.i .i64, .i .i64], .sl [.i .i64]], false⟩] 1099243258496 none (.seq (.rg [o1 28 (.copy 0),
   o1 29 (.lit [.i .i64] [.int .i64 (0)])])
 (.block 0 (.loop [⟨16, [.s, .i .i64, .b], false⟩, ⟨7, [.i .i64, .b, .sl [.i .i64, .i .i64], .sl [.i .i64]], false⟩, ⟨29, [.i .i64], false⟩] 1098974823040
  (.seq (.rg [o1 30 (.data (.bin .lss) [.t 29, .t 28])])
  (.seq (.cond (.t 30)
   .skip
   (.exit 0))
  (.seq (.block 1 (.seq (.rg [o1 31 (.same 6),
    ⟨false, [], [], .call 2 68 [.t 16] (.mp 0), [32, 16], (some 32), none⟩,
    o1 9 (.copy 32)])
  (.rg [o1 33 (.idx .nil),
    o1 34 (.load 7 [] 3 (.t 33) 1 true),
    o1 35 (.copy 9),
    o1 36 (.sli [.i .i64] [.t 35]),
    ⟨false, [34], [], .det 2 (.app (some 34) 36), [37, 34, 34, 7], (some 37), none⟩,
    o1 38 (.idx .nil),
    o4 2 [7, 37, 34] (.store 7 [] 3 (.t 38) (.t 37))])))
  (.rg [o1 39 (.data (.bin .add) [.t 29, .c (.int .i64 (1))]),
    o1 29 (.copy 39)]))))))))
 (.seq (.seq (.join [⟨52, [.b], false⟩] 9006099743178752 none (.rg [o1 40 (.copy 8),
   o1 41 (.data (.bin .gtr) [.t 40, .c (.int .i64 (1))]),
   o1 42 (.copy 41),
   o2 43 (.same 6) 2 false,
   ⟨false, [], [], .call 2 70 [.t 16] (.mp 0), [44, 16], (some 44), some (2, false)⟩,
   o2 45 (.data .not [.t 44]) 2 false,
   ⟨false, [], [], .pick 42 (.c (.bool true)) (.t 45), [46], (some 46), none⟩,
   o1 47 (.copy 46),
   o2 48 (.copy 0) 7 false,
   o2 49 (.load 7 [] 0 .nil 4 true) 7 false,
   ⟨false, [], [], .call 1 28 [.t 48, .t 49] .no, [50], (some 50), some (7, false)⟩,
   o2 51 (.data .not [.t 50]) 7 false,
   ⟨false, [], [], .pick 47 (.c (.bool true)) (.t 51), [52], (some 52), none⟩]))
 (.cond (.t 52)
  (.seq (.rg [o1 53 (.build [.i .i64, .b, .sl [.i .i64, .i .i64], .sl [.i .i64]] []),
    o4 2 [4, 53] (.store 4 [] 0 .nil (.t 53)),
    o1 5 (.lit [.b] [.bool false])])
  .ret)
  .skip))
 (.seq (.rg [o1 54 (.load 7 [] 0 .nil 4 true),
   ⟨false, [54], [], .det 2 (.store 4 [] 0 .nil (.t 54)), [4, 54, 54, 7], none, none⟩,
   o1 5 (.lit [.b] [.bool true])])
 .ret)))))))))))
def s_iReadAnswer : Sig := ⟨[.rd false [.d], .rd false [.d]], (.tup [(true, 4), (false, 1)] [.d, .d, .sl (.own none) [.d, .d], .sl (.own none) [.d], .d])⟩
noncomputable def E_iReadAnswer : TEnv := envOf [(42, p_iin), (67, p_ireader_num), (68, p_ireader_one), (69, p_ireader_edges), (70, p_ireader_ends), (28, p_iAnswerOk)]
noncomputable def f_iReadAnswer (n : Nat) : Int × ByteArray → Option ((Int × Bool × List (Int × Int) × List (Int) × Bool) × Unit) := runFn n E_iReadAnswer c_iReadAnswer [[.i .i64], [.s]] [.i .i64, .b, .sl [.i .i64, .i .i64], .sl [.i .i64], .b] [] [4, 5] .no
noncomputable def g_iReadAnswer := f_iReadAnswer BIG
noncomputable def p_iReadAnswer : TSp := ⟨s_iReadAnswer, [[.i .i64], [.s]], [.i .i64, .b, .sl [.i .i64, .i .i64], .sl [.i .i64], .b], [], Ou.j .no, g_iReadAnswer⟩
theorem k_iReadAnswer : chkW PG E_iReadAnswer 26 s_iReadAnswer (c_iReadAnswer.ht 55) .no = some (c_iReadAnswer.wc E_iReadAnswer, [4, 5]) := by kernel_rfl
theorem ok_iReadAnswer : p_iReadAnswer.Ok PG 26 := mkOk (env_cons ok_iin (env_cons ok_ireader_num (env_cons ok_ireader_one (env_cons ok_ireader_edges (env_cons ok_ireader_ends (env_cons ok_iAnswerOk (env_nil PG))))))) k_iReadAnswer (by kernel_rfl)
theorem e_iReadAnswer (n : Nat) (a0 : Int) (a1 : ByteArray) : f_iReadAnswer n (a0, a1) =
  Option.bind (g_iin (a0, (1 : Int), (12 : Int))) fun r0 =>
  bif !r0.1 then
   some (((0 : Int), false, [], [], false), ())
  else Option.bind (g_ireader_num (a1, (0 : Int), false)) fun r1 =>
  Option.bind (g_ireader_one r1.2) fun r2 =>
  Option.bind (g_ireader_edges r2.2) fun r3 =>
  Option.bind (loopT n (X := (ByteArray × Int × Bool) × (Int × Bool × List (Int × Int) × List (Int)) × Int) (B := (ByteArray × Int × Bool) × (Int × Bool × List (Int × Int) × List (Int))) (fun self5 x4 =>
    bif decide (x4.2.2 < a0) then
     Option.bind (g_ireader_one x4.1) fun r6 =>
     bif decide (x4.2.1.2.2.2.length + [r6.1].length ≤ 4294967296) then
      self5 (r6.2, (x4.2.1.1, x4.2.1.2.1, x4.2.1.2.2.1, x4.2.1.2.2.2 ++ [r6.1]), IntKind.wrap .i64 (x4.2.2 + (1 : Int)))
     else none
    else some (x4.1, x4.2.1)) (r3.2, (r1.1, decide (r2.1 = (1 : Int)), r3.1, []), (0 : Int)) : Option ((ByteArray × Int × Bool) × (Int × Bool × List (Int × Int) × List (Int)))) fun x7 =>
  Option.bind (bif decide ((1 : Int) < r2.1) then
    some true
   else Option.bind (g_ireader_ends x7.1) fun r8 =>
   bif !r8.1 then
    some true
   else Option.bind (g_iAnswerOk (a0, x7.2)) fun r9 =>
   some !r9.1 : Option (Bool)) fun x10 =>
  bif x10 then
   some (((0 : Int), false, [], [], false), ())
  else some ((x7.2.1, x7.2.2.1, x7.2.2.2.1, x7.2.2.2.2, true), ()) := by kernel_rfl
/- spec.l09Labels -/
def c_sl09Labels : TC :=
 (.seq (.rg [o1 4 (.lit [.b] [.bool false])])
 (.seq (.seq (.rg [o1 6 (.copy 1),
   o1 7 (.len 6),
   o1 8 (.copy 0),
   o1 9 (.data (.bin .neq) [.t 7, .t 8])])
 (.cond (.t 9)
  (.seq (.rg [o1 4 (.lit [.b] [.bool false])])
  .ret)
  .skip))
 (.seq (.join [] 68719475760 (some [⟨4, [.b], false⟩]) (.seq (.rg [o1 5 (.lit [.i .i64] [.int .i64 (0)])])
 (.block 0 (.loop [⟨5, [.i .i64], false⟩] 68719475760
  (.seq (.seq (.rg [o1 10 (.copy 5),
    o1 11 (.copy 0),
    o1 12 (.data (.bin .lss) [.t 10, .t 11])])
  (.cond (.t 12)
   .skip
   (.exit 0)))
  (.seq (.join [] 68719443984 (some [⟨4, [.b], false⟩]) (.block 1 (.seq (.join [⟨35, [.b], false⟩] 68719443968 none (.rg [o1 15 (.copy 1),
    o1 16 (.copy 5),
    o1 19 (.copy 5),
    o1 17 (.index 15 (.t 16)),
    o1 18 (.load 15 [(0, 1)] 0 (.t 17) 1 false),
    o3 20 46 [.t 18, .c [.i .i64] [.int .i64 (0)], .t 19],
    o1 21 (.data .not [.t 20]),
    o1 22 (.copy 21),
    o2 23 (.copy 1) 7 false,
    o2 24 (.copy 1) 7 false,
    o2 25 (.copy 5) 7 false,
    o2 26 (.index 24 (.t 25)) 7 false,
    o2 27 (.load 24 [(0, 1)] 0 (.t 26) 1 false) 7 false,
    o2 28 (.index 23 (.t 27)) 7 false,
    o2 29 (.load 23 [(0, 1)] 0 (.t 28) 1 false) 7 false,
    o2 30 (.copy 1) 7 false,
    o2 31 (.copy 5) 7 false,
    o2 32 (.index 30 (.t 31)) 7 false,
    o2 33 (.load 30 [(0, 1)] 0 (.t 32) 1 false) 7 false,
    o2 34 (.data (.bin .neq) [.t 29, .t 33]) 7 false,
    ⟨false, [], [], .pick 22 (.c (.bool true)) (.t 34), [35], (some 35), none⟩]))
  (.cond (.t 35)
   (.seq (.rg [o1 4 (.lit [.b] [.bool false])])
   .ret)
   .skip))))
  (.rg [o1 13 (.copy 5),
    o1 14 (.data (.bin .add) [.t 13, .c (.int .i64 (1))]),
    o1 5 (.copy 14)])))))))
 (.seq (.rg [o1 4 (.lit [.b] [.bool true])])
 .ret))))
def s_sl09Labels : Sig := ⟨[.rd false [.d], .rd false [.sl (.own none) [.d]]], (.one false [.d])⟩
noncomputable def E_sl09Labels : TEnv := envOf [(46, p_sl01In)]
noncomputable def f_sl09Labels (n : Nat) : Int × List (Int) → Option ((Bool) × Unit) := runFn n E_sl09Labels c_sl09Labels [[.i .i64], [.sl [.i .i64]]] [.b] [] [4] .no
noncomputable def g_sl09Labels := f_sl09Labels BIG
noncomputable def p_sl09Labels : TSp := ⟨s_sl09Labels, [[.i .i64], [.sl [.i .i64]]], [.b], [], Ou.j .no, g_sl09Labels⟩
theorem k_sl09Labels : chkW PG E_sl09Labels 73 s_sl09Labels (c_sl09Labels.ht 36) .no = some (c_sl09Labels.wc E_sl09Labels, [4]) := by kernel_rfl
theorem ok_sl09Labels : p_sl09Labels.Ok PG 73 := mkOk (env_cons ok_sl01In (env_nil PG)) k_sl09Labels (by kernel_rfl)
theorem e_sl09Labels (n : Nat) (a0 : Int) (a1 : List (Int)) : f_sl09Labels n (a0, a1) =
  bif !decide ((a1.length : Int) = a0) then
   some (false, ())
  else Option.bind (loopT n (X := Int) (B := (Unit) ⊕ (Bool)) (fun self1 x0 =>
    bif decide (x0 < a0) then
     Option.bind (Option.bind (bnd a1.length x0 fun n2 =>
       Option.bind a1[n2]? fun y3 =>
       Option.bind (g_sl01In (y3, (0 : Int), x0)) fun r4 =>
       bif !r4.1 then
        some true
       else bnd a1.length x0 fun n5 =>
       Option.bind a1[n5]? fun y6 =>
       bnd a1.length y6 fun n7 =>
       Option.bind a1[n7]? fun y8 =>
       bnd a1.length x0 fun n9 =>
       Option.bind a1[n9]? fun y10 =>
       some (!decide (y8 = y10)) : Option (Bool)) fun x11 =>
      bif x11 then
       some (Sum.inr false)
      else some (Sum.inl ()) : Option ((Unit) ⊕ (Bool))) fun y => match y with
     | .inl x12 =>
      self1 (IntKind.wrap .i64 (x0 + (1 : Int)))
     | .inr x12 =>
      some (Sum.inr x12)
    else some (Sum.inl ())) (0 : Int) : Option ((Unit) ⊕ (Bool))) fun y => match y with
  | .inl x13 =>
   some (true, ())
  | .inr x13 =>
   some (x13, ()) := by kernel_rfl
/- spec.AnswerOk -/
def c_sAnswerOk : TC :=
 (.seq (.rg [o1 3 (.a (.t 1)),
   o1 4 (.lit [.b] [.bool false])])
 (.seq (.join [⟨4, [.b], false⟩] 16777200 none (.rg [o1 5 (.copy 0),
   o3 6 46 [.t 5, .c [.i .i64] [.int .i64 (1)], .c [.i .i64] [.int .i64 (12)]],
   o1 7 (.copy 6),
   o2 8 (.idx .nil) 2 true,
   o2 9 (.load 3 [] 0 (.t 8) 1 false) 2 true,
   ⟨false, [], [], .call 1 46 [.t 9, .c [.i .i64] [.int .i64 (1)], .c [.i .i64] [.int .i64 (100000)]] .no, [10], (some 10), some (2, true)⟩,
   ⟨false, [], [], .pick 7 (.t 10) (.c (.bool false)), [11], (some 11), none⟩,
   o1 12 (.copy 11),
   o2 13 (.copy 0) 7 true,
   o2 14 (.idx .nil) 7 true,
   o2 15 (.load 3 [] 2 (.t 14) 1 false) 7 true,
   ⟨false, [], [], .call 1 63 [.t 13, .t 15] .no, [16], (some 16), some (7, true)⟩,
   ⟨false, [], [], .pick 12 (.t 16) (.c (.bool false)), [17], (some 17), none⟩,
   o1 18 (.copy 17),
   o2 19 (.copy 0) 13 true,
   o2 20 (.idx .nil) 13 true,
   o2 21 (.load 3 [] 3 (.t 20) 1 false) 13 true,
   ⟨false, [], [], .call 1 73 [.t 19, .t 21] .no, [22], (some 22), some (13, true)⟩,
   ⟨false, [], [], .pick 18 (.t 22) (.c (.bool false)), [23], (some 23), none⟩,
   o1 4 (.copy 23)]))
 .ret))
def s_sAnswerOk : Sig := ⟨[.rd false [.d], .rd true [.d, .d, .sl (.own none) [.d, .d], .sl (.own none) [.d]]], (.one false [.d])⟩
noncomputable def E_sAnswerOk : TEnv := envOf [(46, p_sl01In), (63, p_sl05Edges), (73, p_sl09Labels)]
noncomputable def f_sAnswerOk (n : Nat) : Int × (Int × Bool × List (Int × Int) × List (Int)) → Option ((Bool) × Unit) := runFn n E_sAnswerOk c_sAnswerOk [[.i .i64], [.i .i64, .b, .sl [.i .i64, .i .i64], .sl [.i .i64]]] [.b] [] [4] .no
noncomputable def g_sAnswerOk := f_sAnswerOk BIG
noncomputable def p_sAnswerOk : TSp := ⟨s_sAnswerOk, [[.i .i64], [.i .i64, .b, .sl [.i .i64, .i .i64], .sl [.i .i64]]], [.b], [], Ou.j .no, g_sAnswerOk⟩
theorem k_sAnswerOk : chkW PG E_sAnswerOk 27 s_sAnswerOk (c_sAnswerOk.ht 24) .no = some (c_sAnswerOk.wc E_sAnswerOk, [4]) := by kernel_rfl
theorem ok_sAnswerOk : p_sAnswerOk.Ok PG 27 := mkOk (env_cons ok_sl01In (env_cons ok_sl05Edges (env_cons ok_sl09Labels (env_nil PG)))) k_sAnswerOk (by kernel_rfl)
theorem e_sAnswerOk (n : Nat) (a0 : Int) (a1 : Int × Bool × List (Int × Int) × List (Int)) : f_sAnswerOk n (a0, a1) =
  Option.bind (Option.bind (g_sl01In (a0, (1 : Int), (12 : Int))) fun r0 =>
   bif r0.1 then
    Option.bind (g_sl01In (a1.1, (1 : Int), (100000 : Int))) fun r1 =>
    bif r1.1 then
     Option.bind (g_sl05Edges (a0, a1.2.2.1)) fun r2 =>
     bif r2.1 then
      Option.bind (g_sl09Labels (a0, a1.2.2.2)) fun r3 =>
      some r3.1
     else some false
    else some false
   else some false : Option (Bool)) fun x4 =>
  some (x4, ()) := by kernel_rfl
/- laws.sameInts -/
def c_lsameInts : TC :=
 (.seq (.rg [o1 4 (.lit [.b] [.bool false])])
 (.seq (.seq (.rg [o1 6 (.copy 0),
   o1 7 (.len 6),
   o1 8 (.copy 1),
   o1 9 (.len 8),
   o1 10 (.data (.bin .neq) [.t 7, .t 9])])
 (.cond (.t 10)
  (.seq (.rg [o1 4 (.lit [.b] [.bool false])])
  .ret)
  .skip))
 (.seq (.join [] 67106864 (some [⟨4, [.b], false⟩]) (.seq (.rg [o1 5 (.lit [.i .i64] [.int .i64 (0)])])
 (.block 0 (.loop [⟨5, [.i .i64], false⟩] 67106864
  (.seq (.seq (.rg [o1 11 (.copy 5),
    o1 12 (.copy 0),
    o1 13 (.len 12),
    o1 14 (.data (.bin .lss) [.t 11, .t 13])])
  (.cond (.t 14)
   .skip
   (.exit 0)))
  (.seq (.block 1 (.seq (.rg [o1 17 (.copy 0),
    o1 18 (.copy 5),
    o1 21 (.copy 1),
    o1 22 (.copy 5),
    o1 19 (.index 17 (.t 18)),
    o1 20 (.load 17 [(0, 1)] 0 (.t 19) 1 false),
    o1 23 (.index 21 (.t 22)),
    o1 24 (.load 21 [(0, 1)] 0 (.t 23) 1 false),
    o1 25 (.data (.bin .neq) [.t 20, .t 24])])
  (.cond (.t 25)
   (.seq (.rg [o1 4 (.lit [.b] [.bool false])])
   .ret)
   .skip)))
  (.rg [o1 15 (.copy 5),
    o1 16 (.data (.bin .add) [.t 15, .c (.int .i64 (1))]),
    o1 5 (.copy 16)])))))))
 (.seq (.rg [o1 4 (.lit [.b] [.bool true])])
 .ret))))
def s_lsameInts : Sig := ⟨[.rd false [.sl (.own none) [.d]], .rd false [.sl (.own none) [.d]]], (.one false [.d])⟩
noncomputable def E_lsameInts : TEnv := envOf []
noncomputable def f_lsameInts (n : Nat) : List (Int) × List (Int) → Option ((Bool) × Unit) := runFn n E_lsameInts c_lsameInts [[.sl [.i .i64]], [.sl [.i .i64]]] [.b] [] [4] .no
noncomputable def g_lsameInts := f_lsameInts BIG
noncomputable def p_lsameInts : TSp := ⟨s_lsameInts, [[.sl [.i .i64]], [.sl [.i .i64]]], [.b], [], Ou.j .no, g_lsameInts⟩
theorem k_lsameInts : chkW PG E_lsameInts 12 s_lsameInts (c_lsameInts.ht 26) .no = some (c_lsameInts.wc E_lsameInts, [4]) := by kernel_rfl
theorem ok_lsameInts : p_lsameInts.Ok PG 12 := mkOk (env_nil PG) k_lsameInts (by kernel_rfl)
theorem e_lsameInts (n : Nat) (a0 : List (Int)) (a1 : List (Int)) : f_lsameInts n (a0, a1) =
  bif !decide ((a0.length : Int) = (a1.length : Int)) then
   some (false, ())
  else Option.bind (loopT n (X := Int) (B := (Unit) ⊕ (Bool)) (fun self1 x0 =>
    bif decide (x0 < (a0.length : Int)) then
     bnd a0.length x0 fun n2 =>
     Option.bind a0[n2]? fun y3 =>
     bnd a1.length x0 fun n4 =>
     Option.bind a1[n4]? fun y5 =>
     bif !decide (y3 = y5) then
      some (Sum.inr false)
     else self1 (IntKind.wrap .i64 (x0 + (1 : Int)))
    else some (Sum.inl ())) (0 : Int) : Option ((Unit) ⊕ (Bool))) fun y => match y with
  | .inl x6 =>
   some (true, ())
  | .inr x6 =>
   some (x6, ()) := by kernel_rfl
/- laws.sameAnswer -/
def c_lsameAnswer : TC :=
 (.seq (.rg [o1 2 (.a (.t 0)),
   o1 3 (.a (.t 1)),
   o1 4 (.lit [.b] [.bool false])])
 (.seq (.join [⟨4, [.b], false⟩] 2147483632 none (.rg [o1 5 (.idx .nil),
   o1 6 (.load 2 [] 0 (.t 5) 1 false),
   o1 7 (.idx .nil),
   o1 8 (.load 3 [] 0 (.t 7) 1 false),
   o1 9 (.data (.bin .eql) [.t 6, .t 8]),
   o1 10 (.copy 9),
   o2 11 (.idx .nil) 5 true,
   o2 12 (.load 2 [] 1 (.t 11) 1 false) 5 true,
   o2 13 (.idx .nil) 5 true,
   o2 14 (.load 3 [] 1 (.t 13) 1 false) 5 true,
   o2 15 (.data (.beq false) [.t 12, .t 14]) 5 true,
   ⟨false, [], [], .pick 10 (.t 15) (.c (.bool false)), [16], (some 16), none⟩,
   o1 17 (.copy 16),
   o2 18 (.idx .nil) 12 true,
   o2 19 (.load 2 [] 2 (.t 18) 1 false) 12 true,
   o2 20 (.idx .nil) 12 true,
   o2 21 (.load 3 [] 2 (.t 20) 1 false) 12 true,
   ⟨false, [], [], .call 1 17 [.t 19, .t 21] .no, [22], (some 22), some (12, true)⟩,
   ⟨false, [], [], .pick 17 (.t 22) (.c (.bool false)), [23], (some 23), none⟩,
   o1 24 (.copy 23),
   o2 25 (.idx .nil) 19 true,
   o2 26 (.load 2 [] 3 (.t 25) 1 false) 19 true,
   o2 27 (.idx .nil) 19 true,
   o2 28 (.load 3 [] 3 (.t 27) 1 false) 19 true,
   ⟨false, [], [], .call 1 12 [.t 26, .t 28] .no, [29], (some 29), some (19, true)⟩,
   ⟨false, [], [], .pick 24 (.t 29) (.c (.bool false)), [30], (some 30), none⟩,
   o1 4 (.copy 30)]))
 .ret))
def s_lsameAnswer : Sig := ⟨[.rd true [.d, .d, .sl (.own none) [.d, .d], .sl (.own none) [.d]], .rd true [.d, .d, .sl (.own none) [.d, .d], .sl (.own none) [.d]]], (.one false [.d])⟩
noncomputable def E_lsameAnswer : TEnv := envOf [(17, p_lsameEdges), (12, p_lsameInts)]
noncomputable def f_lsameAnswer (n : Nat) : (Int × Bool × List (Int × Int) × List (Int)) × (Int × Bool × List (Int × Int) × List (Int)) → Option ((Bool) × Unit) := runFn n E_lsameAnswer c_lsameAnswer [[.i .i64, .b, .sl [.i .i64, .i .i64], .sl [.i .i64]], [.i .i64, .b, .sl [.i .i64, .i .i64], .sl [.i .i64]]] [.b] [] [4] .no
noncomputable def g_lsameAnswer := f_lsameAnswer BIG
noncomputable def p_lsameAnswer : TSp := ⟨s_lsameAnswer, [[.i .i64, .b, .sl [.i .i64, .i .i64], .sl [.i .i64]], [.i .i64, .b, .sl [.i .i64, .i .i64], .sl [.i .i64]]], [.b], [], Ou.j .no, g_lsameAnswer⟩
theorem k_lsameAnswer : chkW PG E_lsameAnswer 29 s_lsameAnswer (c_lsameAnswer.ht 31) .no = some (c_lsameAnswer.wc E_lsameAnswer, [4]) := by kernel_rfl
theorem ok_lsameAnswer : p_lsameAnswer.Ok PG 29 := mkOk (env_cons ok_lsameEdges (env_cons ok_lsameInts (env_nil PG))) k_lsameAnswer (by kernel_rfl)
theorem e_lsameAnswer (n : Nat) (a0 : Int × Bool × List (Int × Int) × List (Int)) (a1 : Int × Bool × List (Int × Int) × List (Int)) : f_lsameAnswer n (a0, a1) =
  Option.bind (bif decide (a0.1 = a1.1) then
    bif (a0.2.1 == a1.2.1) then
     Option.bind (g_lsameEdges (a0.2.2.1, a1.2.2.1)) fun r0 =>
     bif r0.1 then
      Option.bind (g_lsameInts (a0.2.2.2, a1.2.2.2)) fun r1 =>
      some r1.1
     else some false
    else some false
   else some false : Option (Bool)) fun x2 =>
  some (x2, ()) := by kernel_rfl
/- spec.l01Var -/
def c_sl01Var : TC :=
 (.seq (.rg [o1 2 (.lit [.s] [.string ⟨#[]⟩])])
 (.seq (.rg [o1 4 (.sli [.i .u8] []),
   ⟨false, [], [], .det 2 (.copy 4), [3, 4], (some 3), none⟩])
 (.seq (.join [⟨3, [.sl [.i .u8]], false⟩, ⟨0, [.i .i64], false⟩] 65513 none (.block 0 (.loop [⟨3, [.sl [.i .u8]], false⟩, ⟨0, [.i .i64], false⟩] 65513
  (.seq (.seq (.rg [o1 5 (.copy 0),
    o1 6 (.data (.bin .gtr) [.t 5, .c (.int .i64 (127))])])
  (.cond (.t 6)
   .skip
   (.exit 0)))
  (.block 1 (.seq (.rg [⟨false, [], [], .det 2 (.copy 3), [7, 3], (some 7), none⟩,
    o1 8 (.copy 0),
    o1 9 (.data (.bin .rem) [.t 8, .c (.int .i64 (128))]),
    o1 10 (.data (.bin .add) [.t 9, .c (.int .i64 (128))]),
    o1 11 (.data (.conv .u8) [.t 10]),
    o1 12 (.sli [.i .u8] [.t 11]),
    ⟨false, [], [], .det 2 (.app (some 7) 12), [13, 7], (some 13), none⟩,
    ⟨false, [], [], .det 2 (.copy 13), [3, 13], (some 3), none⟩])
  (.rg [o1 14 (.copy 0),
    o1 15 (.data (.bin .quo) [.t 14, .c (.int .i64 (128))]),
    o1 0 (.copy 15)])))))))
 (.seq (.rg [⟨false, [], [], .det 2 (.copy 3), [16, 3], (some 16), none⟩,
   o1 17 (.copy 0),
   o1 18 (.data (.conv .u8) [.t 17]),
   o1 19 (.sli [.i .u8] [.t 18]),
   ⟨false, [], [], .det 2 (.app (some 16) 19), [20, 16], (some 20), none⟩,
   o1 21 (.bytes 20),
   o1 2 (.copy 21)])
 .ret))))
def s_sl01Var : Sig := ⟨[.rd false [.d]], (.one false [.d])⟩
noncomputable def E_sl01Var : TEnv := envOf []
noncomputable def f_sl01Var (n : Nat) : Int → Option ((ByteArray) × Unit) := runFn n E_sl01Var c_sl01Var [[.i .i64]] [.s] [] [2] .no
noncomputable def g_sl01Var := f_sl01Var BIG
noncomputable def p_sl01Var : TSp := ⟨s_sl01Var, [[.i .i64]], [.s], [], Ou.j .no, g_sl01Var⟩
theorem k_sl01Var : chkW PG E_sl01Var 119 s_sl01Var (c_sl01Var.ht 22) .no = some (c_sl01Var.wc E_sl01Var, [2]) := by kernel_rfl
theorem ok_sl01Var : p_sl01Var.Ok PG 119 := mkOk (env_nil PG) k_sl01Var (by kernel_rfl)
theorem e_sl01Var (n : Nat) (a0 : Int) : f_sl01Var n a0 =
  Option.bind (loopT n (X := (List (Int)) × Int) (B := (List (Int)) × Int) (fun self1 x0 =>
    bif decide ((127 : Int) < x0.2) then
     bif decide ((128 : Int) = 0) then
      none
     else bif decide (x0.1.length + ([IntKind.wrap .u8 (IntKind.wrap .i64 ((Int.tmod x0.2 (128 : Int)) + (128 : Int)))]).length ≤ 4294967296) then
      bif decide ((128 : Int) = 0) then
       none
      else self1 (x0.1 ++ ([IntKind.wrap .u8 (IntKind.wrap .i64 ((Int.tmod x0.2 (128 : Int)) + (128 : Int)))]), IntKind.wrap .i64 (Int.tdiv x0.2 (128 : Int)))
     else none
    else some (x0.1, x0.2)) ([], a0) : Option ((List (Int)) × Int)) fun x2 =>
  bif decide (x2.1.length + ([IntKind.wrap .u8 (x2.2)]).length ≤ 4294967296) then
   some (bytesStr (x2.1 ++ ([IntKind.wrap .u8 (x2.2)])), ())
  else none := by kernel_rfl
/- spec.l09Byte -/
def c_sl09Byte : TC :=
 (.seq (.rg [o1 2 (.lit [.s] [.string ⟨#[]⟩])])
 (.seq (.rg [o1 3 (.copy 0),
   o1 4 (.data (.conv .u8) [.t 3]),
   o1 5 (.sli [.i .u8] [.t 4]),
   o1 6 (.bytes 5),
   o1 2 (.copy 6)])
 .ret))
def s_sl09Byte : Sig := ⟨[.rd false [.d]], (.one false [.d])⟩
noncomputable def E_sl09Byte : TEnv := envOf []
noncomputable def f_sl09Byte (n : Nat) : Int → Option ((ByteArray) × Unit) := runFn n E_sl09Byte c_sl09Byte [[.i .i64]] [.s] [] [2] .no
noncomputable def g_sl09Byte := f_sl09Byte BIG
noncomputable def p_sl09Byte : TSp := ⟨s_sl09Byte, [[.i .i64]], [.s], [], Ou.j .no, g_sl09Byte⟩
theorem k_sl09Byte : chkW PG E_sl09Byte 120 s_sl09Byte (c_sl09Byte.ht 7) .no = some (c_sl09Byte.wc E_sl09Byte, [2]) := by kernel_rfl
theorem ok_sl09Byte : p_sl09Byte.Ok PG 120 := mkOk (env_nil PG) k_sl09Byte (by kernel_rfl)
theorem e_sl09Byte (n : Nat) (a0 : Int) : f_sl09Byte n a0 =
  some (bytesStr ([IntKind.wrap .u8 (a0)]), ()) := by kernel_rfl
/- spec.l09Edges -/
def c_sl09Edges : TC :=
 (.seq (.rg [o1 2 (.lit [.s] [.string ⟨#[]⟩])])
 (.seq (.rg [o1 5 (.copy 0),
   o1 6 (.len 5),
   o3 7 119 [.t 6],
   o1 3 (.copy 7)])
 (.seq (.join [⟨3, [.s], false⟩] 536870680 none (.seq (.rg [o1 4 (.lit [.i .i64] [.int .i64 (0)])])
 (.block 0 (.loop [⟨3, [.s], false⟩, ⟨4, [.i .i64], false⟩] 536870680
  (.seq (.seq (.rg [o1 8 (.copy 4),
    o1 9 (.copy 0),
    o1 10 (.len 9),
    o1 11 (.data (.bin .lss) [.t 8, .t 10])])
  (.cond (.t 11)
   .skip
   (.exit 0)))
  (.seq (.block 1 (.rg [o1 14 (.copy 3),
    o1 15 (.copy 0),
    o1 16 (.copy 4),
    o1 22 (.copy 0),
    o1 23 (.copy 4),
    o1 17 (.index 15 (.t 16)),
    o1 18 (.idx (.t 17)),
    o1 19 (.load 15 [(0, 2)] 0 (.t 18) 1 false),
    o3 20 120 [.t 19],
    o1 21 (.data (.bin .add) [.t 14, .t 20]),
    o1 24 (.index 22 (.t 23)),
    o1 25 (.idx (.t 24)),
    o1 26 (.load 22 [(0, 2)] 1 (.t 25) 1 false),
    o3 27 120 [.t 26],
    o1 28 (.data (.bin .add) [.t 21, .t 27]),
    o1 3 (.copy 28)]))
  (.rg [o1 12 (.copy 4),
    o1 13 (.data (.bin .add) [.t 12, .c (.int .i64 (1))]),
    o1 4 (.copy 13)])))))))
 (.seq (.rg [o1 29 (.copy 3),
   o1 2 (.copy 29)])
 .ret))))
def s_sl09Edges : Sig := ⟨[.rd false [.sl (.own none) [.d, .d]]], (.one false [.d])⟩
noncomputable def E_sl09Edges : TEnv := envOf [(119, p_sl01Var), (120, p_sl09Byte)]
noncomputable def f_sl09Edges (n : Nat) : (List (Int × Int)) → Option ((ByteArray) × Unit) := runFn n E_sl09Edges c_sl09Edges [[.sl [.i .i64, .i .i64]]] [.s] [] [2] .no
noncomputable def g_sl09Edges := f_sl09Edges BIG
noncomputable def p_sl09Edges : TSp := ⟨s_sl09Edges, [[.sl [.i .i64, .i .i64]]], [.s], [], Ou.j .no, g_sl09Edges⟩
theorem k_sl09Edges : chkW PG E_sl09Edges 121 s_sl09Edges (c_sl09Edges.ht 30) .no = some (c_sl09Edges.wc E_sl09Edges, [2]) := by kernel_rfl
theorem ok_sl09Edges : p_sl09Edges.Ok PG 121 := mkOk (env_cons ok_sl01Var (env_cons ok_sl09Byte (env_nil PG))) k_sl09Edges (by kernel_rfl)
theorem e_sl09Edges (n : Nat) (a0 : List (Int × Int)) : f_sl09Edges n a0 =
  Option.bind (g_sl01Var (a0.length : Int)) fun r0 =>
  Option.bind (loopT n (X := ByteArray × Int) (B := ByteArray) (fun self2 x1 =>
    bif decide (x1.2 < (a0.length : Int)) then
     bnd a0.length x1.2 fun n3 =>
     Option.bind a0[n3]? fun y4 =>
     Option.bind (g_sl09Byte y4.1) fun r5 =>
     bif decide (x1.1.size + r5.1.size ≤ 4611686018427387904) then
      bnd a0.length x1.2 fun n6 =>
      Option.bind a0[n6]? fun y7 =>
      Option.bind (g_sl09Byte y7.2) fun r8 =>
      bif decide ((x1.1 ++ r5.1).size + r8.1.size ≤ 4611686018427387904) then
       self2 ((x1.1 ++ r5.1) ++ r8.1, IntKind.wrap .i64 (x1.2 + (1 : Int)))
      else none
     else none
    else some x1.1) (r0.1, (0 : Int)) : Option (ByteArray)) fun x9 =>
  some (x9, ()) := by kernel_rfl
/- spec.OrderText -/
def c_sOrderText : TC :=
 (.seq (.rg [o1 3 (.a (.t 1)),
   o1 4 (.lit [.s] [.string ⟨#[]⟩]),
   o1 5 (.lit [.b] [.bool false])])
 (.seq (.seq (.rg [o1 6 (.copy 0),
   o1 7 (.load 3 [] 0 .nil 4 false),
   o3 8 22 [.t 6, .t 7],
   o1 9 (.data .not [.t 8])])
 (.cond (.t 9)
  (.seq (.rg [o1 4 (.lit [.s] [.string ⟨#[]⟩]),
    o1 5 (.lit [.b] [.bool false])])
  .ret)
  .skip))
 (.seq (.rg [o1 10 (.idx .nil),
   o1 11 (.load 3 [] 0 (.t 10) 1 false),
   o3 12 119 [.t 11],
   o1 13 (.idx .nil),
   o1 14 (.load 3 [] 1 (.t 13) 1 false),
   o3 15 120 [.t 14],
   o1 16 (.data (.bin .add) [.t 12, .t 15]),
   o1 17 (.idx .nil),
   o1 18 (.load 3 [] 3 (.t 17) 1 false),
   o3 19 119 [.t 18],
   o1 20 (.data (.bin .add) [.t 16, .t 19]),
   o1 21 (.idx .nil),
   o1 22 (.load 3 [] 2 (.t 21) 1 false),
   o3 23 121 [.t 22],
   o1 24 (.data (.bin .add) [.t 20, .t 23]),
   o1 4 (.copy 24),
   o1 5 (.lit [.b] [.bool true])])
 .ret)))
def s_sOrderText : Sig := ⟨[.rd false [.d], .rd true [.d, .d, .sl (.own none) [.d, .d], .d]], (.tup [(false, 1), (false, 1)] [.d, .d])⟩
noncomputable def E_sOrderText : TEnv := envOf [(22, p_sOrderOk), (119, p_sl01Var), (120, p_sl09Byte), (121, p_sl09Edges)]
noncomputable def f_sOrderText (n : Nat) : Int × (Int × Int × List (Int × Int) × Int) → Option ((ByteArray × Bool) × Unit) := runFn n E_sOrderText c_sOrderText [[.i .i64], [.i .i64, .i .i64, .sl [.i .i64, .i .i64], .i .i64]] [.s, .b] [] [4, 5] .no
noncomputable def g_sOrderText := f_sOrderText BIG
noncomputable def p_sOrderText : TSp := ⟨s_sOrderText, [[.i .i64], [.i .i64, .i .i64, .sl [.i .i64, .i .i64], .i .i64]], [.s, .b], [], Ou.j .no, g_sOrderText⟩
theorem k_sOrderText : chkW PG E_sOrderText 76 s_sOrderText (c_sOrderText.ht 25) .no = some (c_sOrderText.wc E_sOrderText, [4, 5]) := by kernel_rfl
theorem ok_sOrderText : p_sOrderText.Ok PG 76 := mkOk (env_cons ok_sOrderOk (env_cons ok_sl01Var (env_cons ok_sl09Byte (env_cons ok_sl09Edges (env_nil PG))))) k_sOrderText (by kernel_rfl)
theorem e_sOrderText (n : Nat) (a0 : Int) (a1 : Int × Int × List (Int × Int) × Int) : f_sOrderText n (a0, a1) =
  Option.bind (g_sOrderOk (a0, a1)) fun r0 =>
  bif !r0.1 then
   some (((ByteArray.mk #[]), false), ())
  else Option.bind (g_sl01Var a1.1) fun r1 =>
  Option.bind (g_sl09Byte a1.2.1) fun r2 =>
  bif decide (r1.1.size + r2.1.size ≤ 4611686018427387904) then
   Option.bind (g_sl01Var a1.2.2.2) fun r3 =>
   bif decide ((r1.1 ++ r2.1).size + r3.1.size ≤ 4611686018427387904) then
    Option.bind (g_sl09Edges a1.2.2.1) fun r4 =>
    bif decide (((r1.1 ++ r2.1) ++ r3.1).size + r4.1.size ≤ 4611686018427387904) then
     some ((((r1.1 ++ r2.1) ++ r3.1) ++ r4.1, true), ())
    else none
   else none
  else none := by kernel_rfl
/- spec.l01Text -/
def c_sl01Text : TC :=
 (.seq (.rg [o1 4 (.lit [.s] [.string ⟨#[]⟩])])
 (.seq (.join [⟨1, [.i .i64], false⟩] 386 none (.seq (.rg [o1 7 (.copy 1),
   o1 8 (.data (.bin .gtr) [.t 7, .c (.int .i64 (5000))])])
 (.cond (.t 8)
  (.rg [o1 1 (.lit [.i .i64] [.int .i64 (5000)])])
  .skip)))
 (.seq (.rg [o1 9 (.sli [.i .u8] []),
   ⟨false, [], [], .det 2 (.copy 9), [5, 9], (some 5), none⟩])
 (.seq (.join [⟨5, [.sl [.i .u8]], false⟩, ⟨0, [.sl [.i .u8], .i .i64, .i .i64], false⟩] 2096225 none (.seq (.rg [o1 6 (.lit [.i .i64] [.int .i64 (0)])])
 (.block 0 (.loop [⟨5, [.sl [.i .u8]], false⟩, ⟨0, [.sl [.i .u8], .i .i64, .i .i64], false⟩, ⟨6, [.i .i64], false⟩] 2096225
  (.seq (.seq (.rg [o1 10 (.copy 6),
    o1 11 (.copy 1),
    o1 12 (.data (.bin .lss) [.t 10, .t 11])])
  (.cond (.t 12)
   .skip
   (.exit 0)))
  (.seq (.block 1 (.rg [⟨false, [], [], .det 2 (.copy 5), [15, 5], (some 15), none⟩,
    o1 16 (.p0),
    ⟨false, [], [], .call 2 100 [.t 0] (.mp 0), [17, 0], (some 17), none⟩,
    o1 18 (.data (.conv .u8) [.t 17]),
    o1 19 (.sli [.i .u8] [.t 18]),
    ⟨false, [], [], .det 2 (.app (some 15) 19), [20, 15], (some 20), none⟩,
    ⟨false, [], [], .det 2 (.copy 20), [5, 20], (some 5), none⟩]))
  (.rg [o1 13 (.copy 6),
    o1 14 (.data (.bin .add) [.t 13, .c (.int .i64 (1))]),
    o1 6 (.copy 14)])))))))
 (.seq (.rg [⟨false, [], [], .det 2 (.copy 5), [21, 5], (some 21), none⟩,
   o1 22 (.bytes 21),
   o1 4 (.copy 22)])
 .ret)))))
def s_sl01Text : Sig := ⟨[.mp [.sl (.ro []) [.d], .d, .d], .rd false [.d]], (.one false [.d])⟩
noncomputable def E_sl01Text : TEnv := envOf [(100, p_sl01Byte)]
noncomputable def f_sl01Text (n : Nat) : (List (Int) × Int × Int) × Int → Option ((ByteArray) × List (Int) × Int × Int) := runFn n E_sl01Text c_sl01Text [[.sl [.i .u8], .i .i64, .i .i64], [.i .i64]] [.s] [.sl [.i .u8], .i .i64, .i .i64] [4] (.mp 0)
noncomputable def g_sl01Text := f_sl01Text BIG
noncomputable def p_sl01Text : TSp := ⟨s_sl01Text, [[.sl [.i .u8], .i .i64, .i .i64], [.i .i64]], [.s], [.sl [.i .u8], .i .i64, .i .i64], Ou.j (.mp 0), g_sl01Text⟩
theorem k_sl01Text : chkW PG E_sl01Text 123 s_sl01Text (c_sl01Text.ht 23) (.mp 0) = some (c_sl01Text.wc E_sl01Text, [4]) := by kernel_rfl
theorem ok_sl01Text : p_sl01Text.Ok PG 123 := mkOk (env_cons ok_sl01Byte (env_nil PG)) k_sl01Text (by kernel_rfl)
theorem e_sl01Text (n : Nat) (a0 : List (Int) × Int × Int) (a1 : Int) : f_sl01Text n (a0, a1) =
  Option.bind (bif decide ((5000 : Int) < a1) then
    some (5000 : Int)
   else some a1 : Option (Int)) fun x0 =>
  Option.bind (loopT n (X := (List (Int)) × (List (Int) × Int × Int) × Int) (B := (List (Int)) × (List (Int) × Int × Int)) (fun self2 x1 =>
    bif decide (x1.2.2 < x0) then
     Option.bind (g_sl01Byte x1.2.1) fun r3 =>
     bif decide (x1.1.length + ([IntKind.wrap .u8 (r3.1)]).length ≤ 4294967296) then
      self2 (x1.1 ++ ([IntKind.wrap .u8 (r3.1)]), r3.2, IntKind.wrap .i64 (x1.2.2 + (1 : Int)))
     else none
    else some (x1.1, x1.2.1)) ([], a0, (0 : Int)) : Option ((List (Int)) × (List (Int) × Int × Int))) fun x4 =>
  some (bytesStr x4.1, x4.2) := by kernel_rfl
/- spec.l02Spoilt -/
def c_sl02Spoilt : TC :=
 (.seq (.rg [o1 4 (.lit [.s] [.string ⟨#[]⟩])])
 (.seq (.join [⟨0, [.sl [.i .u8], .i .i64, .i .i64], false⟩] 17592186044401 (some [⟨4, [.s], false⟩, ⟨0, [.sl [.i .u8], .i .i64, .i .i64], false⟩]) (.seq (.rg [o1 6 (.p0),
   ⟨false, [], [], .call 2 41 [.t 0, .c [.i .i64] [.int .i64 (12)]] (.mp 0), [7, 0], (some 7), none⟩])
 (.block 0 (.seq (.rg [o1 9 (.data (.bin .eql) [.t 7, .c (.int .i64 (0))]),
   o1 8 (.copy 9)])
 (.cond (.t 8)
  (.seq (.rg [o1 10 (.copy 1),
    o1 11 (.p0),
    ⟨false, [], [], .call 2 123 [.t 0, .c [.i .i64] [.int .i64 (1)]] (.mp 0), [12, 0], (some 12), none⟩,
    o1 13 (.data (.bin .add) [.t 10, .t 12]),
    o1 4 (.copy 13)])
  .ret)
  (.seq (.rg [o1 15 (.data (.bin .eql) [.t 7, .c (.int .i64 (1))]),
    o1 14 (.copy 15)])
  (.cond (.t 14)
   (.seq (.rg [o1 16 (.copy 1),
     o1 17 (.p0),
     o1 18 (.copy 1),
     o1 19 (.data .slen [.t 18]),
     o1 20 (.data (.bin .add) [.t 19, .c (.int .i64 (1))]),
     ⟨false, [], [], .call 2 41 [.t 0, .t 20] (.mp 0), [21, 0], (some 21), none⟩,
     o1 22 (.data (.ssl false true) [.t 16, .t 21]),
     o1 4 (.copy 22)])
   .ret)
   (.seq (.join [⟨23, [.b], false⟩] 58720256 none (.seq (.rg [o1 24 (.data (.bin .eql) [.t 7, .c (.int .i64 (2))]),
     o1 23 (.copy 24)])
   (.cond (.t 23)
    .skip
    (.rg [o1 25 (.data (.bin .eql) [.t 7, .c (.int .i64 (3))]),
      o1 23 (.copy 25)]))))
   (.cond (.t 23)
    (.seq (.rg [o1 26 (.copy 1),
      o1 27 (.data .slen [.t 26]),
      o1 28 (.data (.bin .gtr) [.t 27, .c (.int .i64 (0))])])
    (.cond (.t 28)
     (.seq (.rg [o1 29 (.p0),
       o1 30 (.copy 1),
       o1 31 (.data .slen [.t 30]),
       ⟨false, [], [], .call 2 41 [.t 0, .t 31] (.mp 0), [32, 0], (some 32), none⟩,
       o1 5 (.copy 32)])
     (.seq (.rg [o1 33 (.copy 1),
       o1 34 (.copy 5),
       o1 36 (.p0),
       o1 39 (.copy 1),
       o1 40 (.copy 5),
       ⟨false, [], [0], .det 1 (.data (.ssl false true) [.t 33, .t 34]), [35], (some 35), none⟩,
       ⟨false, [], [], .call 2 123 [.t 0, .c [.i .i64] [.int .i64 (1)]] (.mp 0), [37, 0], (some 37), none⟩,
       o1 38 (.data (.bin .add) [.t 35, .t 37]),
       ⟨false, [], [0], .det 1 (.data (.bin .add) [.t 40, .c (.int .i64 (1))]), [41], (some 41), none⟩,
       ⟨false, [], [0], .det 1 (.data (.ssl true false) [.t 39, .t 41]), [42], (some 42), none⟩,
       o1 43 (.data (.bin .add) [.t 38, .t 42]),
       o1 4 (.copy 43)])
     .ret))
     .skip))
    .skip)))))))))
 (.seq (.rg [o1 44 (.copy 1),
   o1 4 (.copy 44)])
 .ret)))
def s_sl02Spoilt : Sig := ⟨[.mp [.sl (.ro []) [.d], .d, .d], .rd false [.d]], (.one false [.d])⟩
noncomputable def E_sl02Spoilt : TEnv := envOf [(41, p_sl01Below), (123, p_sl01Text)]
noncomputable def f_sl02Spoilt (n : Nat) : (List (Int) × Int × Int) × ByteArray → Option ((ByteArray) × List (Int) × Int × Int) := runFn n E_sl02Spoilt c_sl02Spoilt [[.sl [.i .u8], .i .i64, .i .i64], [.s]] [.s] [.sl [.i .u8], .i .i64, .i .i64] [4] (.mp 0)
noncomputable def g_sl02Spoilt := f_sl02Spoilt BIG
noncomputable def p_sl02Spoilt : TSp := ⟨s_sl02Spoilt, [[.sl [.i .u8], .i .i64, .i .i64], [.s]], [.s], [.sl [.i .u8], .i .i64, .i .i64], Ou.j (.mp 0), g_sl02Spoilt⟩
theorem k_sl02Spoilt : chkW PG E_sl02Spoilt 78 s_sl02Spoilt (c_sl02Spoilt.ht 45) (.mp 0) = some (c_sl02Spoilt.wc E_sl02Spoilt, [4]) := by kernel_rfl
theorem ok_sl02Spoilt : p_sl02Spoilt.Ok PG 78 := mkOk (env_cons ok_sl01Below (env_cons ok_sl01Text (env_nil PG))) k_sl02Spoilt (by kernel_rfl)
theorem e_sl02Spoilt (n : Nat) (a0 : List (Int) × Int × Int) (a1 : ByteArray) : f_sl02Spoilt n (a0, a1) =
  Option.bind (Option.bind (g_sl01Below (a0, (12 : Int))) fun r0 =>
   bif decide (r0.1 = (0 : Int)) then
    Option.bind (g_sl01Text (r0.2, (1 : Int))) fun r1 =>
    bif decide (a1.size + r1.1.size ≤ 4611686018427387904) then
     some (Sum.inr (a1 ++ r1.1, r1.2))
    else none
   else bif decide (r0.1 = (1 : Int)) then
    Option.bind (g_sl01Below (r0.2, IntKind.wrap .i64 ((a1.size : Int) + (1 : Int)))) fun r2 =>
    bif decide (0 ≤ r2.1 ∧ r2.1 ≤ a1.size) then
     some (Sum.inr (a1.extract 0 (Int.toNat r2.1), r2.2))
    else none
   else Option.bind (bif decide (r0.1 = (2 : Int)) then
     some true
    else some (decide (r0.1 = (3 : Int))) : Option (Bool)) fun x3 =>
   bif x3 then
    bif decide ((0 : Int) < (a1.size : Int)) then
     Option.bind (g_sl01Below (r0.2, (a1.size : Int))) fun r4 =>
     bif decide (0 ≤ r4.1 ∧ r4.1 ≤ a1.size) then
      Option.bind (g_sl01Text (r4.2, (1 : Int))) fun r5 =>
      bif decide ((a1.extract 0 (Int.toNat r4.1)).size + r5.1.size ≤ 4611686018427387904) then
       bif decide (0 ≤ (IntKind.wrap .i64 (r4.1 + (1 : Int))) ∧ (IntKind.wrap .i64 (r4.1 + (1 : Int))) ≤ a1.size) then
        bif decide (((a1.extract 0 (Int.toNat r4.1)) ++ r5.1).size + (a1.extract (Int.toNat (IntKind.wrap .i64 (r4.1 + (1 : Int)))) a1.size).size ≤ 4611686018427387904) then
         some (Sum.inr (((a1.extract 0 (Int.toNat r4.1)) ++ r5.1) ++ (a1.extract (Int.toNat (IntKind.wrap .i64 (r4.1 + (1 : Int)))) a1.size), r5.2))
        else none
       else none
      else none
     else none
    else some (Sum.inl r0.2)
   else some (Sum.inl r0.2) : Option (((List (Int) × Int × Int)) ⊕ (ByteArray × (List (Int) × Int × Int)))) fun y => match y with
  | .inl x6 =>
   some (a1, x6)
  | .inr x6 =>
   some (x6.1, x6.2) := by kernel_rfl
/- spec.DrawReadOrder -/
def c_sDrawReadOrder : TC :=
 (.seq (.rg [o1 2 (.lit [.i .i64] [.int .i64 (0)]),
   o1 3 (.lit [.s] [.string ⟨#[]⟩])])
 (.seq (.rg [o1 8 (.copy 0),
   o3 9 39 [.t 8],
   o1 4 (.p0)])
 (.seq (.rg [o1 10 (.same 4),
   ⟨false, [], [], .call 2 75 [.t 9] (.mp 0), [11, 9], (some 11), none⟩,
   o1 5 (.copy 11)])
 (.seq (.rg [o1 13 (.copy 5),
   o1 14 (.same 4),
   o1 15 (.copy 5),
   ⟨false, [], [], .call 2 77 [.t 9, .t 15] (.mp 0), [16, 9], (some 16), none⟩,
   o3 17 76 [.t 13, .t 16],
   ⟨false, [], [], .det 2 (.copy 17), [12, 17], (some 12), none⟩,
   o1 18 (.ext 12 0 1),
   o1 19 (.ext 12 1 1),
   o1 6 (.copy 18),
   o1 7 (.copy 19)])
 (.seq (.rg [o1 20 (.copy 5),
   o1 21 (.same 4),
   o1 22 (.copy 6),
   ⟨false, [], [], .call 2 78 [.t 9, .t 22] (.mp 0), [23, 9], (some 23), none⟩,
   o1 2 (.copy 20),
   o1 3 (.copy 23)])
 .ret)))))
def s_sDrawReadOrder : Sig := ⟨[.rd false [.sl (.own none) [.d]]], (.tup [(false, 1), (false, 1)] [.d, .d])⟩
noncomputable def E_sDrawReadOrder : TEnv := envOf [(39, p_sl01New), (75, p_sl09N), (77, p_sl09AnyOrder), (76, p_sOrderText), (78, p_sl02Spoilt)]
noncomputable def f_sDrawReadOrder (n : Nat) : List (Int) → Option ((Int × ByteArray) × Unit) := runFn n E_sDrawReadOrder c_sDrawReadOrder [[.sl [.i .u8]]] [.i .i64, .s] [] [2, 3] .no
noncomputable def g_sDrawReadOrder := f_sDrawReadOrder BIG
noncomputable def p_sDrawReadOrder : TSp := ⟨s_sDrawReadOrder, [[.sl [.i .u8]]], [.i .i64, .s], [], Ou.j .no, g_sDrawReadOrder⟩
theorem k_sDrawReadOrder : chkW PG E_sDrawReadOrder 30 s_sDrawReadOrder (c_sDrawReadOrder.ht 24) .no = some (c_sDrawReadOrder.wc E_sDrawReadOrder, [2, 3]) := by kernel_rfl
theorem ok_sDrawReadOrder : p_sDrawReadOrder.Ok PG 30 := mkOk (env_cons ok_sl01New (env_cons ok_sl09N (env_cons ok_sl09AnyOrder (env_cons ok_sOrderText (env_cons ok_sl02Spoilt (env_nil PG)))))) k_sDrawReadOrder (by kernel_rfl)
theorem e_sDrawReadOrder (n : Nat) (a0 : List (Int)) : f_sDrawReadOrder n a0 =
  Option.bind (g_sl01New a0) fun r0 =>
  Option.bind (g_sl09N r0.1) fun r1 =>
  Option.bind (g_sl09AnyOrder (r1.2, r1.1)) fun r2 =>
  Option.bind (g_sOrderText (r1.1, r2.1)) fun r3 =>
  Option.bind (g_sl02Spoilt (r2.2, r3.1.1)) fun r4 =>
  some ((r1.1, r4.1), ()) := by kernel_rfl
/- spec.ReadVar -/
def c_sReadVar : TC :=
 (.seq (.rg [o1 4 (.lit [.i .i64] [.int .i64 (0)]),
   o1 5 (.lit [.i .i64] [.int .i64 (0)]),
   o1 6 (.lit [.b] [.bool false])])
 (.seq (.seq (.rg [o1 10 (.copy 1),
   o1 11 (.copy 0),
   o1 12 (.data .slen [.t 11]),
   o3 13 46 [.t 10, .c [.i .i64] [.int .i64 (0)], .t 12],
   o1 14 (.data .not [.t 13])])
 (.cond (.t 14)
  (.seq (.rg [o1 4 (.lit [.i .i64] [.int .i64 (0)]),
    o1 5 (.lit [.i .i64] [.int .i64 (0)]),
    o1 6 (.lit [.b] [.bool false])])
  .ret)
  .skip))
 (.seq (.rg [o1 7 (.lit [.i .i64] [.int .i64 (0)])])
 (.seq (.rg [o1 8 (.lit [.i .i64] [.int .i64 (1)])])
 (.seq (.join [] 288230376151679984 (some [⟨4, [.i .i64], false⟩, ⟨5, [.i .i64], false⟩, ⟨6, [.b], false⟩]) (.seq (.rg [o1 15 (.copy 1),
   o1 9 (.copy 15)])
 (.block 0 (.loop [⟨7, [.i .i64], false⟩, ⟨8, [.i .i64], false⟩, ⟨9, [.i .i64], false⟩] 288230376151647216
  (.seq (.seq (.join [⟨25, [.b], false⟩] 67043328 none (.rg [o1 16 (.copy 9),
    o1 17 (.copy 0),
    o1 18 (.data .slen [.t 17]),
    o1 19 (.data (.bin .lss) [.t 16, .t 18]),
    o1 20 (.copy 19),
    o2 21 (.copy 9) 4 true,
    o2 22 (.copy 1) 4 true,
    o2 23 (.data (.bin .add) [.t 22, .c (.int .i64 (5))]) 4 true,
    o2 24 (.data (.bin .lss) [.t 21, .t 23]) 4 true,
    ⟨false, [], [], .pick 20 (.t 24) (.c (.bool false)), [25], (some 25), none⟩]))
  (.cond (.t 25)
   .skip
   (.exit 0)))
  (.seq (.block 1 (.seq (.rg [o1 28 (.copy 7),
    o1 29 (.copy 0),
    o1 30 (.copy 9),
    o1 31 (.data .sidx [.t 29, .t 30]),
    o1 32 (.data (.conv .i64) [.t 31]),
    o1 33 (.data (.bin .rem) [.t 32, .c (.int .i64 (128))]),
    o1 34 (.copy 8),
    o1 35 (.data (.bin .mul) [.t 33, .t 34]),
    o1 36 (.data (.bin .add) [.t 28, .t 35]),
    o1 7 (.copy 36)])
  (.seq (.rg [o1 37 (.copy 8),
    o1 38 (.data (.bin .mul) [.t 37, .c (.int .i64 (128))]),
    o1 8 (.copy 38)])
  (.seq (.rg [o1 39 (.copy 0),
    o1 40 (.copy 9),
    o1 41 (.data .sidx [.t 39, .t 40]),
    o1 42 (.data (.bin .lss) [.t 41, .c (.int .u8 (128))])])
  (.cond (.t 42)
   (.seq (.seq (.join [⟨54, [.b], false⟩] 36020000925941760 none (.rg [o1 43 (.copy 7),
     o1 44 (.data (.bin .gtr) [.t 43, .c (.int .i64 (1000000000))]),
     o1 45 (.copy 44),
     o2 46 (.copy 7) 2 false,
     ⟨false, [], [], .call 1 119 [.t 46] .no, [47], (some 47), some (2, false)⟩,
     o2 48 (.copy 0) 2 false,
     o2 49 (.copy 1) 2 false,
     o2 50 (.copy 9) 2 false,
     o2 51 (.data (.bin .add) [.t 50, .c (.int .i64 (1))]) 2 false,
     o2 52 (.data (.ssl true true) [.t 48, .t 49, .t 51]) 2 false,
     o2 53 (.data (.bin .neq) [.t 47, .t 52]) 2 false,
     ⟨false, [], [], .pick 45 (.c (.bool true)) (.t 53), [54], (some 54), none⟩]))
   (.cond (.t 54)
    (.seq (.rg [o1 4 (.lit [.i .i64] [.int .i64 (0)]),
      o1 5 (.lit [.i .i64] [.int .i64 (0)]),
      o1 6 (.lit [.b] [.bool false])])
    .ret)
    .skip))
   (.seq (.rg [o1 55 (.copy 7),
     o1 56 (.copy 9),
     o1 57 (.data (.bin .add) [.t 56, .c (.int .i64 (1))]),
     o1 4 (.copy 55),
     o1 5 (.copy 57),
     o1 6 (.lit [.b] [.bool true])])
   .ret))
   .skip)))))
  (.rg [o1 26 (.copy 9),
    o1 27 (.data (.bin .add) [.t 26, .c (.int .i64 (1))]),
    o1 9 (.copy 27)])))))))
 (.seq (.rg [o1 4 (.lit [.i .i64] [.int .i64 (0)]),
   o1 5 (.lit [.i .i64] [.int .i64 (0)]),
   o1 6 (.lit [.b] [.bool false])])
 .ret))))))
def s_sReadVar : Sig := ⟨[.rd false [.d], .rd false [.d]], (.tup [(false, 1), (false, 1), (false, 1)] [.d, .d, .d])⟩
noncomputable def E_sReadVar : TEnv := envOf [(46, p_sl01In), (119, p_sl01Var)]
noncomputable def f_sReadVar (n : Nat) : ByteArray × Int → Option ((Int × Int × Bool) × Unit) := runFn n E_sReadVar c_sReadVar [[.s], [.i .i64]] [.i .i64, .i .i64, .b] [] [4, 5, 6] .no
noncomputable def g_sReadVar := f_sReadVar BIG
noncomputable def p_sReadVar : TSp := ⟨s_sReadVar, [[.s], [.i .i64]], [.i .i64, .i .i64, .b], [], Ou.j .no, g_sReadVar⟩
theorem k_sReadVar : chkW PG E_sReadVar 124 s_sReadVar (c_sReadVar.ht 58) .no = some (c_sReadVar.wc E_sReadVar, [4, 5, 6]) := by kernel_rfl
theorem ok_sReadVar : p_sReadVar.Ok PG 124 := mkOk (env_cons ok_sl01In (env_cons ok_sl01Var (env_nil PG))) k_sReadVar (by kernel_rfl)
theorem e_sReadVar (n : Nat) (a0 : ByteArray) (a1 : Int) : f_sReadVar n (a0, a1) =
  Option.bind (g_sl01In (a1, (0 : Int), (a0.size : Int))) fun r0 =>
  bif !r0.1 then
   some (((0 : Int), (0 : Int), false), ())
  else Option.bind (loopT n (X := Int × Int × Int) (B := (Unit) ⊕ (Int × Int × Bool)) (fun self2 x1 =>
    Option.bind (bif decide (x1.2.2 < (a0.size : Int)) then
      some (decide (x1.2.2 < (IntKind.wrap .i64 (a1 + (5 : Int)))))
     else some false : Option (Bool)) fun x3 =>
    bif x3 then
     bnd a0.size x1.2.2 fun n4 => Option.bind a0[n4]? fun b5 =>
     bif decide ((128 : Int) = 0) then
      none
     else bnd a0.size x1.2.2 fun n6 => Option.bind a0[n6]? fun b7 =>
     bif decide ((b7.toNat : Int) < (128 : Int)) then
      Option.bind (bif decide ((1000000000 : Int) < (IntKind.wrap .i64 (x1.1 + (IntKind.wrap .i64 ((Int.tmod (IntKind.wrap .i64 ((b5.toNat : Int))) (128 : Int)) * x1.2.1))))) then
        some true
       else Option.bind (g_sl01Var (IntKind.wrap .i64 (x1.1 + (IntKind.wrap .i64 ((Int.tmod (IntKind.wrap .i64 ((b5.toNat : Int))) (128 : Int)) * x1.2.1))))) fun r8 =>
       bif decide (0 ≤ a1 ∧ a1 ≤ (IntKind.wrap .i64 (x1.2.2 + (1 : Int))) ∧ (IntKind.wrap .i64 (x1.2.2 + (1 : Int))) ≤ a0.size) then
        some (!(r8.1.toList == (a0.extract (Int.toNat a1) (Int.toNat (IntKind.wrap .i64 (x1.2.2 + (1 : Int))))).toList))
       else none : Option (Bool)) fun x9 =>
      bif x9 then
       some (Sum.inr ((0 : Int), (0 : Int), false))
      else some (Sum.inr (IntKind.wrap .i64 (x1.1 + (IntKind.wrap .i64 ((Int.tmod (IntKind.wrap .i64 ((b5.toNat : Int))) (128 : Int)) * x1.2.1))), IntKind.wrap .i64 (x1.2.2 + (1 : Int)), true))
     else self2 (IntKind.wrap .i64 (x1.1 + (IntKind.wrap .i64 ((Int.tmod (IntKind.wrap .i64 ((b5.toNat : Int))) (128 : Int)) * x1.2.1))), IntKind.wrap .i64 (x1.2.1 * (128 : Int)), IntKind.wrap .i64 (x1.2.2 + (1 : Int)))
    else some (Sum.inl ())) ((0 : Int), (1 : Int), a1) : Option ((Unit) ⊕ (Int × Int × Bool))) fun y => match y with
  | .inl x10 =>
   some (((0 : Int), (0 : Int), false), ())
  | .inr x10 =>
   some (x10, ()) := by kernel_rfl
/- spec.l09Var -/
def c_sl09Var : TC :=
 (.seq (.rg [o1 2 (.lit [.i .i64] [.int .i64 (0)])])
 (.seq (.rg [o1 7 (.p0),
   o1 11 (.p0),
   o1 8 (.same 7),
   o1 9 (.idx (.t 8)),
   o1 10 (.load 0 [] 0 (.t 9) 1 false),
   o1 12 (.same 11),
   o1 13 (.idx (.t 12)),
   o1 14 (.load 0 [] 1 (.t 13) 1 false),
   o3 15 124 [.t 10, .t 14],
   ⟨false, [], [], .det 2 (.copy 15), [6, 15], (some 6), none⟩,
   o1 16 (.ext 6 0 1),
   o1 17 (.ext 6 1 1),
   o1 18 (.ext 6 2 1),
   o1 3 (.copy 16),
   o1 4 (.copy 17),
   o1 5 (.copy 18)])
 (.seq (.seq (.join [⟨26, [.b], false⟩] 133693440 none (.rg [o1 19 (.p0),
   o1 20 (.same 19),
   o1 21 (.idx (.t 20)),
   o1 22 (.load 0 [] 2 (.t 21) 1 false),
   o1 23 (.copy 22),
   o2 24 (.copy 5) 4 false,
   o2 25 (.data .not [.t 24]) 4 false,
   ⟨false, [], [], .pick 23 (.c (.bool true)) (.t 25), [26], (some 26), none⟩]))
 (.cond (.t 26)
  (.seq (.rg [o1 27 (.p0),
    o1 28 (.same 27),
    o1 29 (.idx (.t 28)),
    o4 1 [0] (.store 0 [] 2 (.t 29) (.c [.b] [.bool true]))])
  (.seq (.rg [o1 2 (.lit [.i .i64] [.int .i64 (0)])])
  .ret))
  .skip))
 (.seq (.rg [o1 30 (.p0),
   o1 31 (.copy 4),
   o1 32 (.same 30),
   o1 33 (.idx (.t 32)),
   o4 1 [0] (.store 0 [] 1 (.t 33) (.t 31))])
 (.seq (.rg [o1 34 (.copy 3),
   o1 2 (.copy 34)])
 .ret)))))
def s_sl09Var : Sig := ⟨[.mp [.d, .d, .d]], (.one false [.d])⟩
noncomputable def E_sl09Var : TEnv := envOf [(124, p_sReadVar)]
noncomputable def f_sl09Var (n : Nat) : (ByteArray × Int × Bool) → Option ((Int) × ByteArray × Int × Bool) := runFn n E_sl09Var c_sl09Var [[.s, .i .i64, .b]] [.i .i64] [.s, .i .i64, .b] [2] (.mp 0)
noncomputable def g_sl09Var := f_sl09Var BIG
noncomputable def p_sl09Var : TSp := ⟨s_sl09Var, [[.s, .i .i64, .b]], [.i .i64], [.s, .i .i64, .b], Ou.j (.mp 0), g_sl09Var⟩
theorem k_sl09Var : chkW PG E_sl09Var 79 s_sl09Var (c_sl09Var.ht 35) (.mp 0) = some (c_sl09Var.wc E_sl09Var, [2]) := by kernel_rfl
theorem ok_sl09Var : p_sl09Var.Ok PG 79 := mkOk (env_cons ok_sReadVar (env_nil PG)) k_sl09Var (by kernel_rfl)
theorem e_sl09Var (n : Nat) (a0 : ByteArray × Int × Bool) : f_sl09Var n a0 =
  Option.bind (g_sReadVar (a0.1, a0.2.1)) fun r0 =>
  Option.bind (bif a0.2.2 then
    some true
   else some !r0.1.2.2 : Option (Bool)) fun x1 =>
  bif x1 then
   some ((0 : Int), (a0.1, a0.2.1, true))
  else some (r0.1.1, (a0.1, r0.1.2.1, a0.2.2)) := by kernel_rfl
/- spec.l09Take -/
def c_sl09Take : TC :=
 (.seq (.rg [o1 4 (.lit [.s] [.string ⟨#[]⟩])])
 (.seq (.seq (.join [⟨22, [.b], false⟩] 8388576 none (.rg [o1 5 (.p0),
   o1 6 (.same 5),
   o1 7 (.idx (.t 6)),
   o1 8 (.load 0 [] 2 (.t 7) 1 false),
   o1 9 (.copy 8),
   o2 10 (.copy 1) 4 false,
   o2 11 (.p0) 4 false,
   o2 12 (.same 11) 4 false,
   o2 13 (.idx (.t 12)) 4 false,
   o2 14 (.load 0 [] 0 (.t 13) 1 false) 4 false,
   o2 15 (.data .slen [.t 14]) 4 false,
   o2 16 (.p0) 4 false,
   o2 17 (.same 16) 4 false,
   o2 18 (.idx (.t 17)) 4 false,
   o2 19 (.load 0 [] 1 (.t 18) 1 false) 4 false,
   o2 20 (.data (.bin .sub) [.t 15, .t 19]) 4 false,
   o2 21 (.data (.bin .gtr) [.t 10, .t 20]) 4 false,
   ⟨false, [], [], .pick 9 (.c (.bool true)) (.t 21), [22], (some 22), none⟩]))
 (.cond (.t 22)
  (.seq (.rg [o1 23 (.p0),
    o1 24 (.same 23),
    o1 25 (.idx (.t 24)),
    o4 1 [0] (.store 0 [] 2 (.t 25) (.c [.b] [.bool true]))])
  (.seq (.rg [o1 4 (.lit [.s] [.string ⟨#[]⟩])])
  .ret))
  .skip))
 (.seq (.rg [o1 26 (.p0),
   o1 27 (.p0),
   o1 28 (.same 27),
   o1 29 (.idx (.t 28)),
   o1 30 (.load 0 [] 1 (.t 29) 1 false),
   o1 31 (.copy 1),
   o1 32 (.data (.bin .add) [.t 30, .t 31]),
   o1 33 (.same 26),
   o1 34 (.idx (.t 33)),
   o4 1 [0] (.store 0 [] 1 (.t 34) (.t 32))])
 (.seq (.rg [o1 35 (.p0),
   o1 39 (.p0),
   o1 43 (.copy 1),
   o1 45 (.p0),
   o1 36 (.same 35),
   o1 37 (.idx (.t 36)),
   o1 38 (.load 0 [] 0 (.t 37) 1 false),
   o1 40 (.same 39),
   o1 41 (.idx (.t 40)),
   o1 42 (.load 0 [] 1 (.t 41) 1 false),
   o1 44 (.data (.bin .sub) [.t 42, .t 43]),
   o1 46 (.same 45),
   o1 47 (.idx (.t 46)),
   o1 48 (.load 0 [] 1 (.t 47) 1 false),
   o1 49 (.data (.ssl true true) [.t 38, .t 44, .t 48]),
   o1 4 (.copy 49)])
 .ret))))
def s_sl09Take : Sig := ⟨[.mp [.d, .d, .d], .rd false [.d]], (.one false [.d])⟩
noncomputable def E_sl09Take : TEnv := envOf []
noncomputable def f_sl09Take (n : Nat) : (ByteArray × Int × Bool) × Int → Option ((ByteArray) × ByteArray × Int × Bool) := runFn n E_sl09Take c_sl09Take [[.s, .i .i64, .b], [.i .i64]] [.s] [.s, .i .i64, .b] [4] (.mp 0)
noncomputable def g_sl09Take := f_sl09Take BIG
noncomputable def p_sl09Take : TSp := ⟨s_sl09Take, [[.s, .i .i64, .b], [.i .i64]], [.s], [.s, .i .i64, .b], Ou.j (.mp 0), g_sl09Take⟩
theorem k_sl09Take : chkW PG E_sl09Take 125 s_sl09Take (c_sl09Take.ht 50) (.mp 0) = some (c_sl09Take.wc E_sl09Take, [4]) := by kernel_rfl
theorem ok_sl09Take : p_sl09Take.Ok PG 125 := mkOk (env_nil PG) k_sl09Take (by kernel_rfl)
theorem e_sl09Take (n : Nat) (a0 : ByteArray × Int × Bool) (a1 : Int) : f_sl09Take n (a0, a1) =
  Option.bind (bif a0.2.2 then
    some true
   else some (decide ((IntKind.wrap .i64 ((a0.1.size : Int) - a0.2.1)) < a1)) : Option (Bool)) fun x0 =>
  bif x0 then
   some ((ByteArray.mk #[]), (a0.1, a0.2.1, true))
  else bif decide (0 ≤ (IntKind.wrap .i64 ((IntKind.wrap .i64 (a0.2.1 + a1)) - a1)) ∧ (IntKind.wrap .i64 ((IntKind.wrap .i64 (a0.2.1 + a1)) - a1)) ≤ (IntKind.wrap .i64 (a0.2.1 + a1)) ∧ (IntKind.wrap .i64 (a0.2.1 + a1)) ≤ a0.1.size) then
   some (a0.1.extract (Int.toNat (IntKind.wrap .i64 ((IntKind.wrap .i64 (a0.2.1 + a1)) - a1))) (Int.toNat (IntKind.wrap .i64 (a0.2.1 + a1))), (a0.1, IntKind.wrap .i64 (a0.2.1 + a1), a0.2.2))
  else none := by kernel_rfl
/- spec.l09One -/
def c_sl09One : TC :=
 (.seq (.rg [o1 2 (.lit [.i .i64] [.int .i64 (0)])])
 (.seq (.rg [o1 4 (.p0),
   ⟨false, [], [], .call 2 125 [.t 0, .c [.i .i64] [.int .i64 (1)]] (.mp 0), [5, 0], (some 5), none⟩,
   o1 3 (.copy 5)])
 (.seq (.seq (.rg [o1 6 (.p0),
   o1 7 (.same 6),
   o1 8 (.idx (.t 7)),
   o1 9 (.load 0 [] 2 (.t 8) 1 false)])
 (.cond (.t 9)
  (.seq (.rg [o1 2 (.lit [.i .i64] [.int .i64 (0)])])
  .ret)
  .skip))
 (.seq (.rg [o1 10 (.copy 3),
   o1 11 (.data .sidx [.t 10, .c (.int .i64 (0))]),
   o1 12 (.data (.conv .i64) [.t 11]),
   o1 2 (.copy 12)])
 .ret))))
def s_sl09One : Sig := ⟨[.mp [.d, .d, .d]], (.one false [.d])⟩
noncomputable def E_sl09One : TEnv := envOf [(125, p_sl09Take)]
noncomputable def f_sl09One (n : Nat) : (ByteArray × Int × Bool) → Option ((Int) × ByteArray × Int × Bool) := runFn n E_sl09One c_sl09One [[.s, .i .i64, .b]] [.i .i64] [.s, .i .i64, .b] [2] (.mp 0)
noncomputable def g_sl09One := f_sl09One BIG
noncomputable def p_sl09One : TSp := ⟨s_sl09One, [[.s, .i .i64, .b]], [.i .i64], [.s, .i .i64, .b], Ou.j (.mp 0), g_sl09One⟩
theorem k_sl09One : chkW PG E_sl09One 80 s_sl09One (c_sl09One.ht 13) (.mp 0) = some (c_sl09One.wc E_sl09One, [2]) := by kernel_rfl
theorem ok_sl09One : p_sl09One.Ok PG 80 := mkOk (env_cons ok_sl09Take (env_nil PG)) k_sl09One (by kernel_rfl)
theorem e_sl09One (n : Nat) (a0 : ByteArray × Int × Bool) : f_sl09One n a0 =
  Option.bind (g_sl09Take (a0, (1 : Int))) fun r0 =>
  bif r0.2.2.2 then
   some ((0 : Int), r0.2)
  else bnd r0.1.size (0 : Int) fun n1 => Option.bind r0.1[n1]? fun b2 =>
  some (IntKind.wrap .i64 ((b2.toNat : Int)), r0.2) := by kernel_rfl
/- spec.l09ReadEdges -/
def c_sl09ReadEdges : TC :=
 (.seq (.rg [o1 2 (.lit [.sl [.i .i64, .i .i64]] [.slice none 0 0])])
 (.seq (.rg [o1 7 (.sli [.i .i64, .i .i64] []),
   ⟨false, [], [], .det 2 (.copy 7), [3, 7], (some 3), none⟩])
 (.seq (.rg [o1 8 (.p0),
   ⟨false, [], [], .call 2 79 [.t 0] (.mp 0), [9, 0], (some 9), none⟩,
   o1 4 (.copy 9)])
 (.seq (.join [⟨0, [.s, .i .i64, .b], false⟩, ⟨3, [.sl [.i .i64, .i .i64]], false⟩] 68719475817 none (.seq (.rg [o1 5 (.lit [.i .i64] [.int .i64 (0)])])
 (.block 0 (.loop [⟨0, [.s, .i .i64, .b], false⟩, ⟨3, [.sl [.i .i64, .i .i64]], false⟩, ⟨5, [.i .i64], false⟩] 68719475817
  (.seq (.seq (.join [⟨23, [.b], false⟩] 16776192 none (.rg [o1 10 (.copy 5),
    o1 11 (.copy 4),
    o1 12 (.data (.bin .lss) [.t 10, .t 11]),
    o1 13 (.copy 12),
    o2 14 (.copy 5) 3 true,
    o2 15 (.data (.bin .lss) [.t 14, .c (.int .i64 (100))]) 3 true,
    ⟨false, [], [], .pick 13 (.t 15) (.c (.bool false)), [16], (some 16), none⟩,
    o1 17 (.copy 16),
    o2 18 (.p0) 7 true,
    o2 19 (.same 18) 7 true,
    o2 20 (.idx (.t 19)) 7 true,
    o2 21 (.load 0 [] 2 (.t 20) 1 false) 7 true,
    o2 22 (.data .not [.t 21]) 7 true,
    ⟨false, [], [], .pick 17 (.t 22) (.c (.bool false)), [23], (some 23), none⟩]))
  (.cond (.t 23)
   .skip
   (.exit 0)))
  (.seq (.block 1 (.seq (.rg [o1 26 (.p0),
    ⟨false, [], [], .call 2 80 [.t 0] (.mp 0), [27, 0], (some 27), none⟩,
    o1 28 (.build [.i .i64, .i .i64] [(0, .t 27)]),
    ⟨false, [], [], .det 2 (.a (.c [.i .i64, .i .i64] [.int .i64 (0), .int .i64 (0)])), [6, 1000000001], (some 6), none⟩,
    o4 1 [6] (.store 6 [] 0 .nil (.t 28))])
  (.seq (.rg [o1 29 (.p0),
    ⟨false, [], [], .call 2 80 [.t 0] (.mp 0), [30, 0], (some 30), none⟩,
    o1 31 (.idx .nil),
    o4 1 [6] (.store 6 [] 1 (.t 31) (.t 30))])
  (.rg [⟨false, [], [], .det 2 (.copy 3), [32, 3], (some 32), none⟩,
    o1 33 (.load 6 [] 0 .nil 2 false),
    o1 34 (.sli [.i .i64, .i .i64] [.t 33]),
    ⟨false, [], [], .det 2 (.app (some 32) 34), [35, 32], (some 35), none⟩,
    ⟨false, [], [], .det 2 (.copy 35), [3, 35], (some 3), none⟩]))))
  (.rg [o1 24 (.copy 5),
    o1 25 (.data (.bin .add) [.t 24, .c (.int .i64 (1))]),
    o1 5 (.copy 25)])))))))
 (.seq (.rg [⟨false, [], [], .det 2 (.copy 3), [36, 3], (some 36), none⟩,
   ⟨false, [], [], .det 2 (.copy 36), [2, 36], (some 2), none⟩])
 .ret)))))
def s_sl09ReadEdges : Sig := ⟨[.mp [.d, .d, .d]], (.one false [.sl (.own none) [.d, .d]])⟩
noncomputable def E_sl09ReadEdges : TEnv := envOf [(79, p_sl09Var), (80, p_sl09One)]
noncomputable def f_sl09ReadEdges (n : Nat) : (ByteArray × Int × Bool) → Option ((List (Int × Int)) × ByteArray × Int × Bool) := runFn n E_sl09ReadEdges c_sl09ReadEdges [[.s, .i .i64, .b]] [.sl [.i .i64, .i .i64]] [.s, .i .i64, .b] [2] (.mp 0)
noncomputable def g_sl09ReadEdges := f_sl09ReadEdges BIG
noncomputable def p_sl09ReadEdges : TSp := ⟨s_sl09ReadEdges, [[.s, .i .i64, .b]], [.sl [.i .i64, .i .i64]], [.s, .i .i64, .b], Ou.j (.mp 0), g_sl09ReadEdges⟩
theorem k_sl09ReadEdges : chkW PG E_sl09ReadEdges 81 s_sl09ReadEdges (c_sl09ReadEdges.ht 37) (.mp 0) = some (c_sl09ReadEdges.wc E_sl09ReadEdges, [2]) := by kernel_rfl
theorem ok_sl09ReadEdges : p_sl09ReadEdges.Ok PG 81 := mkOk (env_cons ok_sl09Var (env_cons ok_sl09One (env_nil PG))) k_sl09ReadEdges (by kernel_rfl)
theorem e_sl09ReadEdges (n : Nat) (a0 : ByteArray × Int × Bool) : f_sl09ReadEdges n a0 =
  Option.bind (g_sl09Var a0) fun r0 =>
  Option.bind (loopT n (X := (ByteArray × Int × Bool) × (List (Int × Int)) × Int) (B := (ByteArray × Int × Bool) × (List (Int × Int))) (fun self2 x1 =>
    Option.bind (bif decide (x1.2.2 < r0.1) then
      bif decide (x1.2.2 < (100 : Int)) then
       some !x1.1.2.2
      else some false
     else some false : Option (Bool)) fun x3 =>
    bif x3 then
     Option.bind (g_sl09One x1.1) fun r4 =>
     Option.bind (g_sl09One r4.2) fun r5 =>
     bif decide (x1.2.1.length + ([(r4.1, r5.1)]).length ≤ 4294967296) then
      self2 (r5.2, x1.2.1 ++ ([(r4.1, r5.1)]), IntKind.wrap .i64 (x1.2.2 + (1 : Int)))
     else none
    else some (x1.1, x1.2.1)) (r0.2, [], (0 : Int)) : Option ((ByteArray × Int × Bool) × (List (Int × Int)))) fun x6 =>
  some (x6.2, x6.1) := by kernel_rfl
/- spec.ReadOrder -/
def c_sReadOrder : TC :=
 (.seq (.rg [⟨false, [], [], .det 2 (.a (.c [.i .i64, .i .i64, .sl [.i .i64, .i .i64], .i .i64] [.int .i64 (0), .int .i64 (0), .slice none 0 0, .int .i64 (0)])), [4, 1000000001], (some 4), none⟩,
   o1 5 (.lit [.b] [.bool false])])
 (.seq (.rg [o1 10 (.copy 1),
   o1 11 (.build [.s, .i .i64, .b] [(0, .t 10)]),
   o1 12 (.a (.t 11)),
   o1 6 (.p0)])
 (.seq (.rg [o1 13 (.same 6),
   ⟨false, [], [], .call 2 79 [.t 12] (.mp 0), [14, 12], (some 14), none⟩,
   o1 15 (.build [.i .i64, .i .i64, .sl [.i .i64, .i .i64], .i .i64] [(0, .t 14)]),
   ⟨false, [], [], .det 2 (.a (.c [.i .i64, .i .i64, .sl [.i .i64, .i .i64], .i .i64] [.int .i64 (0), .int .i64 (0), .slice none 0 0, .int .i64 (0)])), [7, 1000000001], (some 7), none⟩,
   o4 2 [7, 15] (.store 7 [] 0 .nil (.t 15))])
 (.seq (.rg [o1 16 (.same 6),
   ⟨false, [], [], .call 2 80 [.t 12] (.mp 0), [17, 12], (some 17), none⟩,
   o1 18 (.idx .nil),
   o4 1 [7] (.store 7 [] 1 (.t 18) (.t 17))])
 (.seq (.rg [o1 19 (.same 6),
   ⟨false, [], [], .call 2 79 [.t 12] (.mp 0), [20, 12], (some 20), none⟩,
   o1 21 (.idx .nil),
   o4 1 [7] (.store 7 [] 3 (.t 21) (.t 20))])
 (.seq (.rg [o1 22 (.same 6),
   ⟨false, [], [], .call 2 81 [.t 12] (.mp 0), [23, 12], (some 23), none⟩,
   o1 24 (.idx .nil),
   o4 2 [7, 23] (.store 7 [] 2 (.t 24) (.t 23))])
 (.seq (.rg [o1 26 (.copy 0),
   o1 27 (.load 7 [] 0 .nil 4 true),
   o3 28 76 [.t 26, .t 27],
   ⟨false, [], [], .det 2 (.copy 28), [25, 28], (some 25), none⟩,
   o1 29 (.ext 25 0 1),
   o1 30 (.ext 25 1 1),
   o1 8 (.copy 29),
   o1 9 (.copy 30)])
 (.seq (.seq (.join [⟨43, [.b], false⟩] 17590038560768 none (.rg [o1 31 (.same 6),
   o1 32 (.same 31),
   o1 33 (.idx (.t 32)),
   o1 34 (.load 12 [] 2 (.t 33) 1 false),
   o1 35 (.copy 34),
   o2 36 (.copy 9) 4 false,
   o2 37 (.data .not [.t 36]) 4 false,
   ⟨false, [], [], .pick 35 (.c (.bool true)) (.t 37), [38], (some 38), none⟩,
   o1 39 (.copy 38),
   o2 40 (.copy 8) 8 false,
   o2 41 (.copy 1) 8 false,
   o2 42 (.data (.bin .neq) [.t 40, .t 41]) 8 false,
   ⟨false, [], [], .pick 39 (.c (.bool true)) (.t 42), [43], (some 43), none⟩]))
 (.cond (.t 43)
  (.seq (.rg [o1 44 (.build [.i .i64, .i .i64, .sl [.i .i64, .i .i64], .i .i64] []),
    o4 2 [4, 44] (.store 4 [] 0 .nil (.t 44)),
    o1 5 (.lit [.b] [.bool false])])
  .ret)
  .skip))
 (.seq (.rg [o1 45 (.load 7 [] 0 .nil 4 true),
   ⟨false, [45], [], .det 2 (.store 4 [] 0 .nil (.t 45)), [4, 45, 45, 7, 27], none, none⟩,
   o1 5 (.lit [.b] [.bool true])])
 .ret)))))))))
def s_sReadOrder : Sig := ⟨[.rd false [.d], .rd false [.d]], (.tup [(true, 4), (false, 1)] [.d, .d, .sl (.own none) [.d, .d], .d, .d])⟩
noncomputable def E_sReadOrder : TEnv := envOf [(79, p_sl09Var), (80, p_sl09One), (81, p_sl09ReadEdges), (76, p_sOrderText)]
noncomputable def f_sReadOrder (n : Nat) : Int × ByteArray → Option ((Int × Int × List (Int × Int) × Int × Bool) × Unit) := runFn n E_sReadOrder c_sReadOrder [[.i .i64], [.s]] [.i .i64, .i .i64, .sl [.i .i64, .i .i64], .i .i64, .b] [] [4, 5] .no
noncomputable def g_sReadOrder := f_sReadOrder BIG
noncomputable def p_sReadOrder : TSp := ⟨s_sReadOrder, [[.i .i64], [.s]], [.i .i64, .i .i64, .sl [.i .i64, .i .i64], .i .i64, .b], [], Ou.j .no, g_sReadOrder⟩
theorem k_sReadOrder : chkW PG E_sReadOrder 31 s_sReadOrder (c_sReadOrder.ht 46) .no = some (c_sReadOrder.wc E_sReadOrder, [4, 5]) := by kernel_rfl
theorem ok_sReadOrder : p_sReadOrder.Ok PG 31 := mkOk (env_cons ok_sl09Var (env_cons ok_sl09One (env_cons ok_sl09ReadEdges (env_cons ok_sOrderText (env_nil PG))))) k_sReadOrder (by kernel_rfl)
theorem e_sReadOrder (n : Nat) (a0 : Int) (a1 : ByteArray) : f_sReadOrder n (a0, a1) =
  Option.bind (g_sl09Var (a1, (0 : Int), false)) fun r0 =>
  Option.bind (g_sl09One r0.2) fun r1 =>
  Option.bind (g_sl09Var r1.2) fun r2 =>
  Option.bind (g_sl09ReadEdges r2.2) fun r3 =>
  Option.bind (g_sOrderText (a0, (r0.1, r1.1, r3.1, r2.1))) fun r4 =>
  Option.bind (bif r3.2.2.2 then
    some true
   else bif !r4.1.2 then
    some true
   else some (!(r4.1.1.toList == a1.toList)) : Option (Bool)) fun x5 =>
  bif x5 then
   some (((0 : Int), (0 : Int), [], (0 : Int), false), ())
  else some ((r0.1, r1.1, r3.1, r2.1, true), ()) := by kernel_rfl
/- spec.l09Flag -/
def c_sl09Flag : TC :=
 (.seq (.rg [o1 2 (.lit [.s] [.string ⟨#[]⟩])])
 (.seq (.seq (.rg [o1 3 (.copy 0)])
 (.cond (.t 3)
  (.seq (.rg [o1 2 (.lit [.s] [.string ⟨#[1]⟩])])
  .ret)
  .skip))
 (.seq (.rg [o1 2 (.lit [.s] [.string ⟨#[0]⟩])])
 .ret)))
def s_sl09Flag : Sig := ⟨[.rd false [.d]], (.one false [.d])⟩
noncomputable def E_sl09Flag : TEnv := envOf []
noncomputable def f_sl09Flag (n : Nat) : Bool → Option ((ByteArray) × Unit) := runFn n E_sl09Flag c_sl09Flag [[.b]] [.s] [] [2] .no
noncomputable def g_sl09Flag := f_sl09Flag BIG
noncomputable def p_sl09Flag : TSp := ⟨s_sl09Flag, [[.b]], [.s], [], Ou.j .no, g_sl09Flag⟩
theorem k_sl09Flag : chkW PG E_sl09Flag 126 s_sl09Flag (c_sl09Flag.ht 4) .no = some (c_sl09Flag.wc E_sl09Flag, [2]) := by kernel_rfl
theorem ok_sl09Flag : p_sl09Flag.Ok PG 126 := mkOk (env_nil PG) k_sl09Flag (by kernel_rfl)
theorem e_sl09Flag (n : Nat) (a0 : Bool) : f_sl09Flag n a0 =
  bif a0 then
   some ((ByteArray.mk #[1]), ())
  else some ((ByteArray.mk #[0]), ()) := by kernel_rfl
/- spec.AnswerText -/
def c_sAnswerText : TC :=
 (.seq (.rg [o1 3 (.a (.t 1)),
   o1 4 (.lit [.s] [.string ⟨#[]⟩]),
   o1 5 (.lit [.b] [.bool false])])
 (.seq (.seq (.rg [o1 8 (.copy 0),
   o1 9 (.load 3 [] 0 .nil 4 false),
   o3 10 27 [.t 8, .t 9],
   o1 11 (.data .not [.t 10])])
 (.cond (.t 11)
  (.seq (.rg [o1 4 (.lit [.s] [.string ⟨#[]⟩]),
    o1 5 (.lit [.b] [.bool false])])
  .ret)
  .skip))
 (.seq (.rg [o1 12 (.idx .nil),
   o1 13 (.load 3 [] 0 (.t 12) 1 false),
   o3 14 119 [.t 13],
   o1 15 (.idx .nil),
   o1 16 (.load 3 [] 1 (.t 15) 1 false),
   o3 17 126 [.t 16],
   o1 18 (.data (.bin .add) [.t 14, .t 17]),
   o1 19 (.idx .nil),
   o1 20 (.load 3 [] 2 (.t 19) 1 false),
   o3 21 121 [.t 20],
   o1 22 (.data (.bin .add) [.t 18, .t 21]),
   o1 6 (.copy 22)])
 (.seq (.join [⟨6, [.s], false⟩] 68711088320 none (.seq (.rg [o1 7 (.lit [.i .i64] [.int .i64 (0)])])
 (.block 0 (.loop [⟨6, [.s], false⟩, ⟨7, [.i .i64], false⟩] 68711088320
  (.seq (.seq (.rg [o1 23 (.copy 7),
    o1 24 (.copy 0),
    o1 25 (.data (.bin .lss) [.t 23, .t 24])])
  (.cond (.t 25)
   .skip
   (.exit 0)))
  (.seq (.block 1 (.rg [o1 28 (.copy 6),
    o1 29 (.idx .nil),
    o1 30 (.load 3 [] 3 (.t 29) 1 false),
    o1 31 (.copy 7),
    o1 32 (.index 30 (.t 31)),
    o1 33 (.load 30 [(0, 1)] 0 (.t 32) 1 false),
    o3 34 120 [.t 33],
    o1 35 (.data (.bin .add) [.t 28, .t 34]),
    o1 6 (.copy 35)]))
  (.rg [o1 26 (.copy 7),
    o1 27 (.data (.bin .add) [.t 26, .c (.int .i64 (1))]),
    o1 7 (.copy 27)])))))))
 (.seq (.rg [o1 36 (.copy 6),
   o1 4 (.copy 36),
   o1 5 (.lit [.b] [.bool true])])
 .ret)))))
def s_sAnswerText : Sig := ⟨[.rd false [.d], .rd true [.d, .d, .sl (.own none) [.d, .d], .sl (.own none) [.d]]], (.tup [(false, 1), (false, 1)] [.d, .d])⟩
noncomputable def E_sAnswerText : TEnv := envOf [(27, p_sAnswerOk), (119, p_sl01Var), (126, p_sl09Flag), (121, p_sl09Edges), (120, p_sl09Byte)]
noncomputable def f_sAnswerText (n : Nat) : Int × (Int × Bool × List (Int × Int) × List (Int)) → Option ((ByteArray × Bool) × Unit) := runFn n E_sAnswerText c_sAnswerText [[.i .i64], [.i .i64, .b, .sl [.i .i64, .i .i64], .sl [.i .i64]]] [.s, .b] [] [4, 5] .no
noncomputable def g_sAnswerText := f_sAnswerText BIG
noncomputable def p_sAnswerText : TSp := ⟨s_sAnswerText, [[.i .i64], [.i .i64, .b, .sl [.i .i64, .i .i64], .sl [.i .i64]]], [.s, .b], [], Ou.j .no, g_sAnswerText⟩
theorem k_sAnswerText : chkW PG E_sAnswerText 82 s_sAnswerText (c_sAnswerText.ht 37) .no = some (c_sAnswerText.wc E_sAnswerText, [4, 5]) := by kernel_rfl
theorem ok_sAnswerText : p_sAnswerText.Ok PG 82 := mkOk (env_cons ok_sAnswerOk (env_cons ok_sl01Var (env_cons ok_sl09Flag (env_cons ok_sl09Edges (env_cons ok_sl09Byte (env_nil PG)))))) k_sAnswerText (by kernel_rfl)
theorem e_sAnswerText (n : Nat) (a0 : Int) (a1 : Int × Bool × List (Int × Int) × List (Int)) : f_sAnswerText n (a0, a1) =
  Option.bind (g_sAnswerOk (a0, a1)) fun r0 =>
  bif !r0.1 then
   some (((ByteArray.mk #[]), false), ())
  else Option.bind (g_sl01Var a1.1) fun r1 =>
  Option.bind (g_sl09Flag a1.2.1) fun r2 =>
  bif decide (r1.1.size + r2.1.size ≤ 4611686018427387904) then
   Option.bind (g_sl09Edges a1.2.2.1) fun r3 =>
   bif decide ((r1.1 ++ r2.1).size + r3.1.size ≤ 4611686018427387904) then
    Option.bind (loopT n (X := ByteArray × Int) (B := ByteArray) (fun self5 x4 =>
      bif decide (x4.2 < a0) then
       bnd a1.2.2.2.length x4.2 fun n6 =>
       Option.bind a1.2.2.2[n6]? fun y7 =>
       Option.bind (g_sl09Byte y7) fun r8 =>
       bif decide (x4.1.size + r8.1.size ≤ 4611686018427387904) then
        self5 (x4.1 ++ r8.1, IntKind.wrap .i64 (x4.2 + (1 : Int)))
       else none
      else some x4.1) ((r1.1 ++ r2.1) ++ r3.1, (0 : Int)) : Option (ByteArray)) fun x9 =>
    some ((x9, true), ())
   else none
  else none := by kernel_rfl
end Go.Fw
