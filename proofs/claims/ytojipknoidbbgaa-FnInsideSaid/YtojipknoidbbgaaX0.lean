/- The given functions, as what they compute; each is shown to be what the code does. No conditions. -/
import Derived.Test.YtojipknoidbbgaaG5
import Derived.Test.YtojipknoidbbgaaProg
set_option linter.unusedVariables false
set_option linter.unusedSimpArgs false
namespace Go.Fw
noncomputable abbrev PG := Go.Proofs.Try.prog
def o2 (d : Nat) (e : ED) (j : Nat) (b : Bool) : TO := ⟨false, [], [], .det 1 e, [d], some d, some (j, b)⟩
def o3 (d : Nat) (K : FuncId) (gets : List OY) : TO := ⟨false, [], [], .call 1 K gets .no, [d], some d, none⟩
def o4 (n : Nat) (ds : List Nat) (e : ED) : TO := ⟨false, [], [], .det n e, ds, none, none⟩
end Go.Fw
namespace Go.Fw
/- laws.big -/
def c_lbig : TC :=
 (.seq (.rg [o1 2 (.lit [.b] [.bool false])])
 (.seq (.rg [o1 3 (.copy 0),
   o1 4 (.len 3),
   o1 5 (.data (.bin .gtr) [.t 4, .c (.int .i64 (1048576))]),
   o1 2 (.copy 5)])
 .ret))
def s_lbig : Sig := ⟨[.rd false [.sl (.own none) [.d]]], (.one false [.d])⟩
noncomputable def E_lbig : TEnv := envOf []
noncomputable def f_lbig (n : Nat) : List (Int) → Option ((Bool) × Unit) := runFn n E_lbig c_lbig [[.sl [.i .u8]]] [.b] [] [2] .no
noncomputable def g_lbig := f_lbig BIG
noncomputable def p_lbig : TSp := ⟨s_lbig, [[.sl [.i .u8]]], [.b], [], Ou.j .no, g_lbig⟩
theorem k_lbig : chkW PG E_lbig 17 s_lbig (c_lbig.ht 6) .no = some (c_lbig.wc E_lbig, [2]) := by kernel_rfl
theorem ok_lbig : p_lbig.Ok PG 17 := mkOk (env_nil PG) k_lbig (by kernel_rfl)
theorem e_lbig (n : Nat) (a0 : List (Int)) : f_lbig n a0 =
  some (decide ((1048576 : Int) < (a0.length : Int)), ()) := by kernel_rfl
/- spec.l01New -/
def c_sl01New : TC :=
 (.seq (.rg [o1 2 (.nl)])
 (.seq (.rg [o1 5 (.copy 0),
   o1 6 (.len 5),
   o1 7 (.data (.bin .add) [.c (.int .i64 (13501)), .t 6]),
   o1 3 (.copy 7)])
 (.seq (.join [⟨3, [.i .i64], false⟩] 268435224 none (.seq (.rg [o1 4 (.lit [.i .i64] [.int .i64 (0)])])
 (.block 0 (.loop [⟨3, [.i .i64], false⟩, ⟨4, [.i .i64], false⟩] 268435224
  (.seq (.seq (.join [⟨15, [.b], false⟩] 65280 none (.rg [o1 8 (.copy 4),
    o1 9 (.copy 0),
    o1 10 (.len 9),
    o1 11 (.data (.bin .lss) [.t 8, .t 10]),
    o1 12 (.copy 11),
    o2 13 (.copy 4) 4 true,
    o2 14 (.data (.bin .lss) [.t 13, .c (.int .i64 (4000))]) 4 true,
    ⟨false, [], [], .pick 12 (.t 14) (.c (.bool false)), [15], (some 15), none⟩]))
  (.cond (.t 15)
   .skip
   (.exit 0)))
  (.seq (.block 1 (.rg [o1 18 (.copy 3),
    o1 19 (.data (.bin .mul) [.t 18, .c (.int .i64 (131))]),
    o1 20 (.copy 0),
    o1 21 (.copy 4),
    o1 22 (.index 20 (.t 21)),
    o1 23 (.load 20 [(0, 1)] 0 (.t 22) 1 false),
    o1 24 (.data (.conv .i64) [.t 23]),
    o1 25 (.data (.bin .add) [.t 19, .t 24]),
    o1 26 (.data (.bin .add) [.t 25, .c (.int .i64 (7))]),
    o1 27 (.data (.bin .and) [.t 26, .c (.int .i64 (1073741823))]),
    o1 3 (.copy 27)]))
  (.rg [o1 16 (.copy 4),
    o1 17 (.data (.bin .add) [.t 16, .c (.int .i64 (1))]),
    o1 4 (.copy 17)])))))))
 (.seq (.rg [o1 28 (.copy 0),
   o1 29 (.copy 3),
   o1 30 (.build [.sl [.i .u8], .i .i64, .i .i64] [(0, .t 28), (2, .t 29)]),
   o1 31 (.a (.t 30)),
   ⟨true, [], [], .det 2 (.copy 31), [2, 31], (some 2), none⟩])
 .ret))))
def s_sl01New : Sig := ⟨[.rd false [.sl (.own none) [.d]]], (.bx [.sl (.ro [0]) [.d], .d, .d])⟩
noncomputable def E_sl01New : TEnv := envOf []
noncomputable def f_sl01New (n : Nat) : List (Int) → Option ((List (Int) × Int × Int) × Unit) := runFn n E_sl01New c_sl01New [[.sl [.i .u8]]] [.sl [.i .u8], .i .i64, .i .i64] [] [2] .no
noncomputable def g_sl01New := f_sl01New BIG
noncomputable def p_sl01New : TSp := ⟨s_sl01New, [[.sl [.i .u8]]], [.sl [.i .u8], .i .i64, .i .i64], [], Ou.j .no, g_sl01New⟩
theorem k_sl01New : chkW PG E_sl01New 90 s_sl01New (c_sl01New.ht 32) .no = some (c_sl01New.wc E_sl01New, [2]) := by kernel_rfl
theorem ok_sl01New : p_sl01New.Ok PG 90 := mkOk (env_nil PG) k_sl01New (by kernel_rfl)
theorem e_sl01New (n : Nat) (a0 : List (Int)) : f_sl01New n a0 =
  Option.bind (loopT n (X := Int × Int) (B := Int) (fun self1 x0 =>
    Option.bind (bif decide (x0.2 < (a0.length : Int)) then
      some (decide (x0.2 < (4000 : Int)))
     else some false : Option (Bool)) fun x2 =>
    bif x2 then
     bnd a0.length x0.2 fun n3 =>
     Option.bind a0[n3]? fun y4 =>
     self1 (bits .and .i64 (IntKind.wrap .i64 ((IntKind.wrap .i64 ((IntKind.wrap .i64 (x0.1 * (131 : Int))) + (IntKind.wrap .i64 (y4)))) + (7 : Int))) (1073741823 : Int), IntKind.wrap .i64 (x0.2 + (1 : Int)))
    else some x0.1) (IntKind.wrap .i64 ((13501 : Int) + (a0.length : Int)), (0 : Int)) : Option (Int)) fun x5 =>
  some ((a0, (0 : Int), x5), ()) := by kernel_rfl
/- spec.l01Byte -/
def c_sl01Byte : TC :=
 (.seq (.rg [o1 2 (.lit [.i .i64] [.int .i64 (0)])])
 (.seq (.rg [o1 4 (.p0),
   o1 5 (.p0),
   o1 6 (.same 5),
   o1 7 (.idx (.t 6)),
   o1 8 (.load 0 [] 2 (.t 7) 1 false),
   o1 9 (.data (.bin .mul) [.t 8, .c (.int .i64 (6364136223846793005))]),
   o1 10 (.data (.bin .add) [.t 9, .c (.int .i64 (1442695040888963407))]),
   o1 11 (.same 4),
   o1 12 (.idx (.t 11)),
   o4 1 [0] (.store 0 [] 2 (.t 12) (.t 10))])
 (.seq (.rg [o1 13 (.p0),
   o1 14 (.same 13),
   o1 15 (.idx (.t 14)),
   o1 16 (.load 0 [] 2 (.t 15) 1 false),
   o1 17 (.data (.bin .shr) [.t 16, .c (.int .u64 (33))]),
   o1 18 (.p0),
   o1 19 (.same 18),
   o1 20 (.idx (.t 19)),
   o1 21 (.load 0 [] 2 (.t 20) 1 false),
   o1 22 (.data (.bin .shr) [.t 21, .c (.int .u64 (45))]),
   o1 23 (.data (.bin .xor) [.t 17, .t 22]),
   o1 24 (.data (.bin .and) [.t 23, .c (.int .i64 (255))]),
   o1 3 (.copy 24)])
 (.seq (.join [⟨3, [.i .i64], false⟩, ⟨0, [.sl [.i .u8], .i .i64, .i .i64], false⟩] 144115188042301449 none (.seq (.rg [o1 25 (.p0),
   o1 26 (.same 25),
   o1 27 (.idx (.t 26)),
   o1 28 (.load 0 [] 1 (.t 27) 1 false),
   o1 29 (.p0),
   o1 30 (.same 29),
   o1 31 (.idx (.t 30)),
   o1 32 (.load 0 [] 0 (.t 31) 1 false),
   o1 33 (.len 32),
   o1 34 (.data (.bin .lss) [.t 28, .t 33])])
 (.cond (.t 34)
  (.seq (.rg [o1 35 (.copy 3),
    o1 36 (.p0),
    o1 37 (.same 36),
    o1 38 (.idx (.t 37)),
    o1 39 (.load 0 [] 0 (.t 38) 1 false),
    o1 40 (.p0),
    o1 41 (.same 40),
    o1 42 (.idx (.t 41)),
    o1 43 (.load 0 [] 1 (.t 42) 1 false),
    o1 44 (.index 39 (.t 43)),
    o1 45 (.load 39 [(0, 1)] 0 (.t 44) 1 false),
    o1 46 (.data (.conv .i64) [.t 45]),
    o1 47 (.data (.bin .add) [.t 35, .t 46]),
    o1 48 (.data (.bin .and) [.t 47, .c (.int .i64 (255))]),
    o1 3 (.copy 48)])
  (.rg [o1 49 (.p0),
    o1 50 (.p0),
    o1 51 (.same 50),
    o1 52 (.idx (.t 51)),
    o1 53 (.load 0 [] 1 (.t 52) 1 false),
    o1 54 (.data (.bin .add) [.t 53, .c (.int .i64 (1))]),
    o1 55 (.same 49),
    o1 56 (.idx (.t 55)),
    o4 1 [0] (.store 0 [] 1 (.t 56) (.t 54))]))
  .skip)))
 (.seq (.rg [o1 57 (.copy 3),
   o1 2 (.copy 57)])
 .ret)))))
def s_sl01Byte : Sig := ⟨[.mp [.sl (.ro []) [.d], .d, .d]], (.one false [.d])⟩
noncomputable def E_sl01Byte : TEnv := envOf []
noncomputable def f_sl01Byte (n : Nat) : (List (Int) × Int × Int) → Option ((Int) × List (Int) × Int × Int) := runFn n E_sl01Byte c_sl01Byte [[.sl [.i .u8], .i .i64, .i .i64]] [.i .i64] [.sl [.i .u8], .i .i64, .i .i64] [2] (.mp 0)
noncomputable def g_sl01Byte := f_sl01Byte BIG
noncomputable def p_sl01Byte : TSp := ⟨s_sl01Byte, [[.sl [.i .u8], .i .i64, .i .i64]], [.i .i64], [.sl [.i .u8], .i .i64, .i .i64], Ou.j (.mp 0), g_sl01Byte⟩
theorem k_sl01Byte : chkW PG E_sl01Byte 103 s_sl01Byte (c_sl01Byte.ht 58) (.mp 0) = some (c_sl01Byte.wc E_sl01Byte, [2]) := by kernel_rfl
theorem ok_sl01Byte : p_sl01Byte.Ok PG 103 := mkOk (env_nil PG) k_sl01Byte (by kernel_rfl)
theorem e_sl01Byte (n : Nat) (a0 : List (Int) × Int × Int) : f_sl01Byte n a0 =
  bif decide ((33 : Int) < 0) then
   none
  else bif decide ((45 : Int) < 0) then
   none
  else Option.bind (bif decide (a0.2.1 < (a0.1.length : Int)) then
    bnd a0.1.length a0.2.1 fun n0 =>
    Option.bind a0.1[n0]? fun y1 =>
    some (bits .and .i64 (IntKind.wrap .i64 ((bits .and .i64 (bits .xor .i64 (Int.fdiv (IntKind.wrap .i64 ((IntKind.wrap .i64 (a0.2.2 * (6364136223846793005 : Int))) + (1442695040888963407 : Int))) (2 ^ (Nat.min (Int.toNat (33 : Int)) (IntKind.bits .i64)))) (Int.fdiv (IntKind.wrap .i64 ((IntKind.wrap .i64 (a0.2.2 * (6364136223846793005 : Int))) + (1442695040888963407 : Int))) (2 ^ (Nat.min (Int.toNat (45 : Int)) (IntKind.bits .i64))))) (255 : Int)) + (IntKind.wrap .i64 (y1)))) (255 : Int), (a0.1, IntKind.wrap .i64 (a0.2.1 + (1 : Int)), IntKind.wrap .i64 ((IntKind.wrap .i64 (a0.2.2 * (6364136223846793005 : Int))) + (1442695040888963407 : Int))))
   else some (bits .and .i64 (bits .xor .i64 (Int.fdiv (IntKind.wrap .i64 ((IntKind.wrap .i64 (a0.2.2 * (6364136223846793005 : Int))) + (1442695040888963407 : Int))) (2 ^ (Nat.min (Int.toNat (33 : Int)) (IntKind.bits .i64)))) (Int.fdiv (IntKind.wrap .i64 ((IntKind.wrap .i64 (a0.2.2 * (6364136223846793005 : Int))) + (1442695040888963407 : Int))) (2 ^ (Nat.min (Int.toNat (45 : Int)) (IntKind.bits .i64))))) (255 : Int), (a0.1, a0.2.1, IntKind.wrap .i64 ((IntKind.wrap .i64 (a0.2.2 * (6364136223846793005 : Int))) + (1442695040888963407 : Int)))) : Option (Int × (List (Int) × Int × Int))) fun x2 =>
  some (x2.1, x2.2) := by kernel_rfl
/- spec.l01Below -/
def c_sl01Below : TC :=
 (.seq (.rg [o1 4 (.lit [.i .i64] [.int .i64 (0)])])
 (.seq (.seq (.rg [o1 9 (.copy 1),
   o1 10 (.data (.bin .leq) [.t 9, .c (.int .i64 (0))])])
 (.cond (.t 10)
  (.seq (.rg [o1 4 (.lit [.i .i64] [.int .i64 (0)])])
  .ret)
  .skip))
 (.seq (.seq (.rg [o1 11 (.copy 1),
   o1 12 (.data (.bin .leq) [.t 11, .c (.int .i64 (256))])])
 (.cond (.t 12)
  (.seq (.rg [o1 13 (.p0),
    ⟨false, [], [], .call 2 103 [.t 0] (.mp 0), [14, 0], (some 14), none⟩,
    o1 15 (.copy 1),
    o1 16 (.data (.bin .rem) [.t 14, .t 15]),
    o1 4 (.copy 16)])
  .ret)
  .skip))
 (.seq (.rg [o1 17 (.p0),
   ⟨false, [], [], .call 2 103 [.t 0] (.mp 0), [18, 0], (some 18), none⟩,
   o1 5 (.copy 18)])
 (.seq (.rg [o1 19 (.p0),
   ⟨false, [], [], .call 2 103 [.t 0] (.mp 0), [20, 0], (some 20), none⟩,
   o1 6 (.copy 20)])
 (.seq (.rg [o1 21 (.p0),
   ⟨false, [], [], .call 2 103 [.t 0] (.mp 0), [22, 0], (some 22), none⟩,
   o1 7 (.copy 22)])
 (.seq (.rg [o1 23 (.p0),
   ⟨false, [], [], .call 2 103 [.t 0] (.mp 0), [24, 0], (some 24), none⟩,
   o1 8 (.copy 24)])
 (.seq (.rg [o1 25 (.copy 5),
   o1 26 (.data (.bin .mul) [.t 25, .c (.int .i64 (16777216))]),
   o1 27 (.copy 6),
   o1 28 (.data (.bin .mul) [.t 27, .c (.int .i64 (65536))]),
   o1 29 (.data (.bin .add) [.t 26, .t 28]),
   o1 30 (.copy 7),
   o1 31 (.data (.bin .mul) [.t 30, .c (.int .i64 (256))]),
   o1 32 (.data (.bin .add) [.t 29, .t 31]),
   o1 33 (.copy 8),
   o1 34 (.data (.bin .add) [.t 32, .t 33]),
   o1 35 (.copy 1),
   o1 36 (.data (.bin .rem) [.t 34, .t 35]),
   o1 4 (.copy 36)])
 .ret))))))))
def s_sl01Below : Sig := ⟨[.mp [.sl (.ro []) [.d], .d, .d], .rd false [.d]], (.one false [.d])⟩
noncomputable def E_sl01Below : TEnv := envOf [(103, p_sl01Byte)]
noncomputable def f_sl01Below (n : Nat) : (List (Int) × Int × Int) × Int → Option ((Int) × List (Int) × Int × Int) := runFn n E_sl01Below c_sl01Below [[.sl [.i .u8], .i .i64, .i .i64], [.i .i64]] [.i .i64] [.sl [.i .u8], .i .i64, .i .i64] [4] (.mp 0)
noncomputable def g_sl01Below := f_sl01Below BIG
noncomputable def p_sl01Below : TSp := ⟨s_sl01Below, [[.sl [.i .u8], .i .i64, .i .i64], [.i .i64]], [.i .i64], [.sl [.i .u8], .i .i64, .i .i64], Ou.j (.mp 0), g_sl01Below⟩
theorem k_sl01Below : chkW PG E_sl01Below 92 s_sl01Below (c_sl01Below.ht 37) (.mp 0) = some (c_sl01Below.wc E_sl01Below, [4]) := by kernel_rfl
theorem ok_sl01Below : p_sl01Below.Ok PG 92 := mkOk (env_cons ok_sl01Byte (env_nil PG)) k_sl01Below (by kernel_rfl)
theorem e_sl01Below (n : Nat) (a0 : List (Int) × Int × Int) (a1 : Int) : f_sl01Below n (a0, a1) =
  bif decide (a1 ≤ (0 : Int)) then
   some ((0 : Int), a0)
  else bif decide (a1 ≤ (256 : Int)) then
   Option.bind (g_sl01Byte a0) fun r0 =>
   bif decide (a1 = 0) then
    none
   else some (Int.tmod r0.1 a1, r0.2)
  else Option.bind (g_sl01Byte a0) fun r1 =>
  Option.bind (g_sl01Byte r1.2) fun r2 =>
  Option.bind (g_sl01Byte r2.2) fun r3 =>
  Option.bind (g_sl01Byte r3.2) fun r4 =>
  bif decide (a1 = 0) then
   none
  else some (Int.tmod (IntKind.wrap .i64 ((IntKind.wrap .i64 ((IntKind.wrap .i64 ((IntKind.wrap .i64 (r1.1 * (16777216 : Int))) + (IntKind.wrap .i64 (r2.1 * (65536 : Int))))) + (IntKind.wrap .i64 (r3.1 * (256 : Int))))) + r4.1)) a1, r4.2) := by kernel_rfl
/- spec.l09N -/
def c_sl09N : TC :=
 (.seq (.rg [o1 2 (.lit [.i .i64] [.int .i64 (0)])])
 (.seq (.rg [o1 3 (.p0),
   ⟨false, [], [], .call 2 92 [.t 0, .c [.i .i64] [.int .i64 (11)]] (.mp 0), [4, 0], (some 4), none⟩,
   o1 5 (.data (.bin .add) [.c (.int .i64 (2)), .t 4]),
   o1 2 (.copy 5)])
 .ret))
def s_sl09N : Sig := ⟨[.mp [.sl (.ro []) [.d], .d, .d]], (.one false [.d])⟩
noncomputable def E_sl09N : TEnv := envOf [(92, p_sl01Below)]
noncomputable def f_sl09N (n : Nat) : (List (Int) × Int × Int) → Option ((Int) × List (Int) × Int × Int) := runFn n E_sl09N c_sl09N [[.sl [.i .u8], .i .i64, .i .i64]] [.i .i64] [.sl [.i .u8], .i .i64, .i .i64] [2] (.mp 0)
noncomputable def g_sl09N := f_sl09N BIG
noncomputable def p_sl09N : TSp := ⟨s_sl09N, [[.sl [.i .u8], .i .i64, .i .i64]], [.i .i64], [.sl [.i .u8], .i .i64, .i .i64], Ou.j (.mp 0), g_sl09N⟩
theorem k_sl09N : chkW PG E_sl09N 91 s_sl09N (c_sl09N.ht 6) (.mp 0) = some (c_sl09N.wc E_sl09N, [2]) := by kernel_rfl
theorem ok_sl09N : p_sl09N.Ok PG 91 := mkOk (env_cons ok_sl01Below (env_nil PG)) k_sl09N (by kernel_rfl)
theorem e_sl09N (n : Nat) (a0 : List (Int) × Int × Int) : f_sl09N n a0 =
  Option.bind (g_sl01Below (a0, (11 : Int))) fun r0 =>
  some (IntKind.wrap .i64 ((2 : Int) + r0.1), r0.2) := by kernel_rfl
/- spec.l05Edge -/
def c_sl05Edge : TC :=
 (.seq (.rg [⟨false, [], [], .det 2 (.a (.c [.i .i64, .i .i64] [.int .i64 (0), .int .i64 (0)])), [4, 1000000001], (some 4), none⟩])
 (.seq (.rg [o1 7 (.p0),
   o1 8 (.copy 1),
   ⟨false, [], [], .call 2 92 [.t 0, .t 8] (.mp 0), [9, 0], (some 9), none⟩,
   o1 5 (.copy 9)])
 (.seq (.rg [o1 10 (.p0),
   o1 11 (.copy 1),
   ⟨false, [], [], .call 2 92 [.t 0, .t 11] (.mp 0), [12, 0], (some 12), none⟩,
   o1 6 (.copy 12)])
 (.seq (.join [⟨6, [.i .i64], false⟩] 1040448 none (.seq (.rg [o1 13 (.copy 5),
   o1 14 (.copy 6),
   o1 15 (.data (.bin .eql) [.t 13, .t 14])])
 (.cond (.t 15)
  (.rg [o1 16 (.copy 5),
    o1 17 (.data (.bin .add) [.t 16, .c (.int .i64 (1))]),
    o1 18 (.copy 1),
    o1 19 (.data (.bin .rem) [.t 17, .t 18]),
    o1 6 (.copy 19)])
  .skip)))
 (.seq (.seq (.rg [o1 20 (.copy 5),
   o1 21 (.copy 6),
   o1 22 (.data (.bin .gtr) [.t 20, .t 21])])
 (.cond (.t 22)
  (.seq (.rg [o1 23 (.copy 6),
    o1 24 (.copy 5),
    o1 25 (.build [.i .i64, .i .i64] [(0, .t 23), (1, .t 24)]),
    o4 1 [4] (.store 4 [] 0 .nil (.t 25))])
  .ret)
  .skip))
 (.seq (.rg [o1 26 (.copy 5),
   o1 27 (.copy 6),
   o1 28 (.build [.i .i64, .i .i64] [(0, .t 26), (1, .t 27)]),
   o4 1 [4] (.store 4 [] 0 .nil (.t 28))])
 .ret))))))
def s_sl05Edge : Sig := ⟨[.mp [.sl (.ro []) [.d], .d, .d], .rd false [.d]], (.one true [.d, .d])⟩
noncomputable def E_sl05Edge : TEnv := envOf [(92, p_sl01Below)]
noncomputable def f_sl05Edge (n : Nat) : (List (Int) × Int × Int) × Int → Option ((Int × Int) × List (Int) × Int × Int) := runFn n E_sl05Edge c_sl05Edge [[.sl [.i .u8], .i .i64, .i .i64], [.i .i64]] [.i .i64, .i .i64] [.sl [.i .u8], .i .i64, .i .i64] [4] (.mp 0)
noncomputable def g_sl05Edge := f_sl05Edge BIG
noncomputable def p_sl05Edge : TSp := ⟨s_sl05Edge, [[.sl [.i .u8], .i .i64, .i .i64], [.i .i64]], [.i .i64, .i .i64], [.sl [.i .u8], .i .i64, .i .i64], Ou.j (.mp 0), g_sl05Edge⟩
theorem k_sl05Edge : chkW PG E_sl05Edge 93 s_sl05Edge (c_sl05Edge.ht 29) (.mp 0) = some (c_sl05Edge.wc E_sl05Edge, [4]) := by kernel_rfl
theorem ok_sl05Edge : p_sl05Edge.Ok PG 93 := mkOk (env_cons ok_sl01Below (env_nil PG)) k_sl05Edge (by kernel_rfl)
theorem e_sl05Edge (n : Nat) (a0 : List (Int) × Int × Int) (a1 : Int) : f_sl05Edge n (a0, a1) =
  Option.bind (g_sl01Below (a0, a1)) fun r0 =>
  Option.bind (g_sl01Below (r0.2, a1)) fun r1 =>
  Option.bind (bif decide (r0.1 = r1.1) then
    bif decide (a1 = 0) then
     none
    else some (Int.tmod (IntKind.wrap .i64 (r0.1 + (1 : Int))) a1)
   else some r1.1 : Option (Int)) fun x2 =>
  bif decide (x2 < r0.1) then
   some ((x2, r0.1), r1.2)
  else some ((r0.1, x2), r1.2) := by kernel_rfl
/- spec.l01Once -/
def c_sl01Once : TC :=
 (.seq (.rg [o1 4 (.lit [.b] [.bool false])])
 (.seq (.rg [o1 5 (.p0),
   o1 6 (.copy 1),
   ⟨false, [], [], .call 2 92 [.t 0, .t 6] (.mp 0), [7, 0], (some 7), none⟩,
   o1 8 (.data (.bin .eql) [.t 7, .c (.int .i64 (0))]),
   o1 4 (.copy 8)])
 .ret))
def s_sl01Once : Sig := ⟨[.mp [.sl (.ro []) [.d], .d, .d], .rd false [.d]], (.one false [.d])⟩
noncomputable def E_sl01Once : TEnv := envOf [(92, p_sl01Below)]
noncomputable def f_sl01Once (n : Nat) : (List (Int) × Int × Int) × Int → Option ((Bool) × List (Int) × Int × Int) := runFn n E_sl01Once c_sl01Once [[.sl [.i .u8], .i .i64, .i .i64], [.i .i64]] [.b] [.sl [.i .u8], .i .i64, .i .i64] [4] (.mp 0)
noncomputable def g_sl01Once := f_sl01Once BIG
noncomputable def p_sl01Once : TSp := ⟨s_sl01Once, [[.sl [.i .u8], .i .i64, .i .i64], [.i .i64]], [.b], [.sl [.i .u8], .i .i64, .i .i64], Ou.j (.mp 0), g_sl01Once⟩
theorem k_sl01Once : chkW PG E_sl01Once 94 s_sl01Once (c_sl01Once.ht 9) (.mp 0) = some (c_sl01Once.wc E_sl01Once, [4]) := by kernel_rfl
theorem ok_sl01Once : p_sl01Once.Ok PG 94 := mkOk (env_cons ok_sl01Below (env_nil PG)) k_sl01Once (by kernel_rfl)
theorem e_sl01Once (n : Nat) (a0 : List (Int) × Int × Int) (a1 : Int) : f_sl01Once n (a0, a1) =
  Option.bind (g_sl01Below (a0, a1)) fun r0 =>
  some (decide (r0.1 = (0 : Int)), r0.2) := by kernel_rfl
/- spec.l01PickInt -/
def c_sl01PickInt : TC :=
 (.seq (.rg [o1 4 (.lit [.i .i64] [.int .i64 (0)])])
 (.seq (.rg [o1 5 (.copy 1),
   o1 6 (.p0),
   o1 7 (.copy 1),
   o1 8 (.len 7),
   ⟨false, [], [], .call 2 92 [.t 0, .t 8] (.mp 0), [9, 0], (some 9), none⟩,
   o1 10 (.index 5 (.t 9)),
   o1 11 (.load 5 [(0, 1)] 0 (.t 10) 1 false),
   o1 4 (.copy 11)])
 .ret))
def s_sl01PickInt : Sig := ⟨[.mp [.sl (.ro []) [.d], .d, .d], .rd false [.sl (.own none) [.d]]], (.one false [.d])⟩
noncomputable def E_sl01PickInt : TEnv := envOf [(92, p_sl01Below)]
noncomputable def f_sl01PickInt (n : Nat) : (List (Int) × Int × Int) × List (Int) → Option ((Int) × List (Int) × Int × Int) := runFn n E_sl01PickInt c_sl01PickInt [[.sl [.i .u8], .i .i64, .i .i64], [.sl [.i .i64]]] [.i .i64] [.sl [.i .u8], .i .i64, .i .i64] [4] (.mp 0)
noncomputable def g_sl01PickInt := f_sl01PickInt BIG
noncomputable def p_sl01PickInt : TSp := ⟨s_sl01PickInt, [[.sl [.i .u8], .i .i64, .i .i64], [.sl [.i .i64]]], [.i .i64], [.sl [.i .u8], .i .i64, .i .i64], Ou.j (.mp 0), g_sl01PickInt⟩
theorem k_sl01PickInt : chkW PG E_sl01PickInt 229 s_sl01PickInt (c_sl01PickInt.ht 12) (.mp 0) = some (c_sl01PickInt.wc E_sl01PickInt, [4]) := by kernel_rfl
theorem ok_sl01PickInt : p_sl01PickInt.Ok PG 229 := mkOk (env_cons ok_sl01Below (env_nil PG)) k_sl01PickInt (by kernel_rfl)
theorem e_sl01PickInt (n : Nat) (a0 : List (Int) × Int × Int) (a1 : List (Int)) : f_sl01PickInt n (a0, a1) =
  Option.bind (g_sl01Below (a0, (a1.length : Int))) fun r0 =>
  bnd a1.length r0.1 fun n1 =>
  Option.bind a1[n1]? fun y2 =>
  some (y2, r0.2) := by kernel_rfl
/- spec.l05AnyEdge -/
def c_sl05AnyEdge : TC :=
 (.seq (.rg [o1 3 (.a (.t 1)),
   ⟨false, [], [], .det 2 (.a (.c [.i .i64, .i .i64] [.int .i64 (0), .int .i64 (0)])), [4, 1000000001], (some 4), none⟩])
 (.seq (.seq (.join [⟨0, [.sl [.i .u8], .i .i64, .i .i64], false⟩, ⟨12, [.b], false⟩] 8161 none (.rg [o1 5 (.idx .nil),
   o1 6 (.load 3 [] 1 (.t 5) 1 false),
   o1 7 (.len 6),
   o1 8 (.data (.bin .gtr) [.t 7, .c (.int .i64 (0))]),
   o1 9 (.copy 8),
   o2 10 (.p0) 4 true,
   ⟨false, [], [], .call 2 94 [.t 0, .c [.i .i64] [.int .i64 (2)]] (.mp 0), [11, 0], (some 11), some (4, true)⟩,
   ⟨false, [], [], .pick 9 (.t 11) (.c (.bool false)), [12], (some 12), none⟩]))
 (.cond (.t 12)
  (.seq (.rg [⟨false, [], [0], .det 1 (.idx .nil), [13], (some 13), none⟩,
    ⟨false, [], [0], .det 1 (.load 3 [] 1 (.t 13) 1 false), [14], (some 14), none⟩,
    o1 15 (.p0),
    o1 16 (.idx .nil),
    o1 17 (.load 3 [] 1 (.t 16) 1 false),
    o1 18 (.len 17),
    ⟨false, [], [], .call 2 92 [.t 0, .t 18] (.mp 0), [19, 0], (some 19), none⟩,
    o1 20 (.index 14 (.t 19)),
    o1 21 (.load 14 [(0, 2)] 0 (.t 20) 2 false),
    o4 1 [4] (.store 4 [] 0 .nil (.t 21))])
  .ret)
  .skip))
 (.seq (.seq (.rg [o1 22 (.p0),
   ⟨false, [], [], .call 2 94 [.t 0, .c [.i .i64] [.int .i64 (12)]] (.mp 0), [23, 0], (some 23), none⟩])
 (.cond (.t 23)
  (.seq (.rg [o1 24 (.p0),
    ⟨false, [], [], .det 6 (.sli [.i .i64] [.c [.i .i64] [.int .i64 (-1)], .c [.i .i64] [.int .i64 (0)], .c [.i .i64] [.int .i64 (5)], .c [.i .i64] [.int .i64 (11)], .c [.i .i64] [.int .i64 (12)]]), [25, 1000000001, 1000000002, 1000000003, 1000000004, 1000000005], (some 25), none⟩,
    ⟨false, [], [], .call 2 229 [.t 0, .t 25] (.mp 0), [26, 0], (some 26), none⟩,
    o1 27 (.p0),
    ⟨false, [], [], .det 5 (.sli [.i .i64] [.c [.i .i64] [.int .i64 (0)], .c [.i .i64] [.int .i64 (5)], .c [.i .i64] [.int .i64 (11)], .c [.i .i64] [.int .i64 (12)]]), [28, 1000000001, 1000000002, 1000000003, 1000000004], (some 28), none⟩,
    ⟨false, [], [], .call 2 229 [.t 0, .t 28] (.mp 0), [29, 0], (some 29), none⟩,
    o1 30 (.build [.i .i64, .i .i64] [(0, .t 26), (1, .t 29)]),
    o4 1 [4] (.store 4 [] 0 .nil (.t 30))])
  .ret)
  .skip))
 (.seq (.rg [o1 31 (.p0),
   ⟨false, [], [], .call 2 93 [.t 0, .c [.i .i64] [.int .i64 (6)]] (.mp 0), [32, 0], (some 32), none⟩,
   o4 1 [4] (.store 4 [] 0 .nil (.t 32))])
 .ret))))
def s_sl05AnyEdge : Sig := ⟨[.mp [.sl (.ro []) [.d], .d, .d], .rd true [.d, .sl (.own none) [.d, .d]]], (.one true [.d, .d])⟩
noncomputable def E_sl05AnyEdge : TEnv := envOf [(94, p_sl01Once), (92, p_sl01Below), (229, p_sl01PickInt), (93, p_sl05Edge)]
noncomputable def f_sl05AnyEdge (n : Nat) : (List (Int) × Int × Int) × (Int × List (Int × Int)) → Option ((Int × Int) × List (Int) × Int × Int) := runFn n E_sl05AnyEdge c_sl05AnyEdge [[.sl [.i .u8], .i .i64, .i .i64], [.i .i64, .sl [.i .i64, .i .i64]]] [.i .i64, .i .i64] [.sl [.i .u8], .i .i64, .i .i64] [4] (.mp 0)
noncomputable def g_sl05AnyEdge := f_sl05AnyEdge BIG
noncomputable def p_sl05AnyEdge : TSp := ⟨s_sl05AnyEdge, [[.sl [.i .u8], .i .i64, .i .i64], [.i .i64, .sl [.i .i64, .i .i64]]], [.i .i64, .i .i64], [.sl [.i .u8], .i .i64, .i .i64], Ou.j (.mp 0), g_sl05AnyEdge⟩
theorem k_sl05AnyEdge : chkW PG E_sl05AnyEdge 95 s_sl05AnyEdge (c_sl05AnyEdge.ht 33) (.mp 0) = some (c_sl05AnyEdge.wc E_sl05AnyEdge, [4]) := by kernel_rfl
theorem ok_sl05AnyEdge : p_sl05AnyEdge.Ok PG 95 := mkOk (env_cons ok_sl01Once (env_cons ok_sl01Below (env_cons ok_sl01PickInt (env_cons ok_sl05Edge (env_nil PG))))) k_sl05AnyEdge (by kernel_rfl)
theorem e_sl05AnyEdge (n : Nat) (a0 : List (Int) × Int × Int) (a1 : Int × List (Int × Int)) : f_sl05AnyEdge n (a0, a1) =
  Option.bind (bif decide ((0 : Int) < (a1.2.length : Int)) then
    Option.bind (g_sl01Once (a0, (2 : Int))) fun r0 =>
    some (r0.2, r0.1)
   else some (a0, false) : Option ((List (Int) × Int × Int) × Bool)) fun x1 =>
  bif x1.2 then
   Option.bind (g_sl01Below (x1.1, (a1.2.length : Int))) fun r2 =>
   bnd a1.2.length r2.1 fun n3 =>
   Option.bind a1.2[n3]? fun y4 =>
   some (y4, r2.2)
  else Option.bind (g_sl01Once (x1.1, (12 : Int))) fun r5 =>
  bif r5.1 then
   Option.bind (g_sl01PickInt (r5.2, [(-1 : Int), (0 : Int), (5 : Int), (11 : Int), (12 : Int)])) fun r6 =>
   Option.bind (g_sl01PickInt (r6.2, [(0 : Int), (5 : Int), (11 : Int), (12 : Int)])) fun r7 =>
   some ((r6.1, r7.1), r7.2)
  else Option.bind (g_sl05Edge (r5.2, (6 : Int))) fun r8 =>
  some (r8.1, r8.2) := by kernel_rfl
/- spec.l01Place -/
def c_sl01Place : TC :=
 (.seq (.rg [o1 4 (.lit [.i .i64] [.int .i64 (0)])])
 (.seq (.seq (.rg [o1 5 (.p0),
   ⟨false, [], [], .call 2 94 [.t 0, .c [.i .i64] [.int .i64 (15)]] (.mp 0), [6, 0], (some 6), none⟩])
 (.cond (.t 6)
  (.seq (.rg [o1 7 (.p0),
    o1 8 (.copy 1),
    o1 9 (.copy 1),
    o1 10 (.data (.bin .add) [.t 9, .c (.int .i64 (1))]),
    ⟨false, [], [], .det 4 (.sli [.i .i64] [.c [.i .i64] [.int .i64 (-1)], .t 8, .t 10, .c [.i .i64] [.int .i64 (9223372036854775807)], .c [.i .i64] [.int .i64 (-9223372036854775808)]]), [11, 1000000001, 1000000004, 1000000005], (some 11), none⟩,
    ⟨false, [], [], .call 2 229 [.t 0, .t 11] (.mp 0), [12, 0], (some 12), none⟩,
    o1 4 (.copy 12)])
  .ret)
  .skip))
 (.seq (.rg [o1 13 (.p0),
   o1 14 (.copy 1),
   ⟨false, [], [], .call 2 92 [.t 0, .t 14] (.mp 0), [15, 0], (some 15), none⟩,
   o1 4 (.copy 15)])
 .ret)))
def s_sl01Place : Sig := ⟨[.mp [.sl (.ro []) [.d], .d, .d], .rd false [.d]], (.one false [.d])⟩
noncomputable def E_sl01Place : TEnv := envOf [(94, p_sl01Once), (229, p_sl01PickInt), (92, p_sl01Below)]
noncomputable def f_sl01Place (n : Nat) : (List (Int) × Int × Int) × Int → Option ((Int) × List (Int) × Int × Int) := runFn n E_sl01Place c_sl01Place [[.sl [.i .u8], .i .i64, .i .i64], [.i .i64]] [.i .i64] [.sl [.i .u8], .i .i64, .i .i64] [4] (.mp 0)
noncomputable def g_sl01Place := f_sl01Place BIG
noncomputable def p_sl01Place : TSp := ⟨s_sl01Place, [[.sl [.i .u8], .i .i64, .i .i64], [.i .i64]], [.i .i64], [.sl [.i .u8], .i .i64, .i .i64], Ou.j (.mp 0), g_sl01Place⟩
theorem k_sl01Place : chkW PG E_sl01Place 96 s_sl01Place (c_sl01Place.ht 16) (.mp 0) = some (c_sl01Place.wc E_sl01Place, [4]) := by kernel_rfl
theorem ok_sl01Place : p_sl01Place.Ok PG 96 := mkOk (env_cons ok_sl01Once (env_cons ok_sl01PickInt (env_cons ok_sl01Below (env_nil PG)))) k_sl01Place (by kernel_rfl)
theorem e_sl01Place (n : Nat) (a0 : List (Int) × Int × Int) (a1 : Int) : f_sl01Place n (a0, a1) =
  Option.bind (g_sl01Once (a0, (15 : Int))) fun r0 =>
  bif r0.1 then
   Option.bind (g_sl01PickInt (r0.2, [(-1 : Int), a1, IntKind.wrap .i64 (a1 + (1 : Int)), (9223372036854775807 : Int), (-9223372036854775808 : Int)])) fun r1 =>
   some (r1.1, r1.2)
  else Option.bind (g_sl01Below (r0.2, a1)) fun r2 =>
  some (r2.1, r2.2) := by kernel_rfl
/- spec.DrawInside -/
def c_sDrawInside : TC :=
 (.seq (.rg [o1 2 (.lit [.sl [.i .i64]] [.slice none 0 0]),
   o1 3 (.lit [.sl [.i .i64, .i .i64]] [.slice none 0 0]),
   o1 4 (.lit [.i .i64] [.int .i64 (0)])])
 (.seq (.rg [o1 11 (.copy 0),
   o3 12 90 [.t 11],
   o1 5 (.p0)])
 (.seq (.rg [o1 13 (.same 5),
   ⟨false, [], [], .call 2 91 [.t 12] (.mp 0), [14, 12], (some 14), none⟩,
   o1 6 (.copy 14)])
 (.seq (.rg [o1 15 (.sli [.i .i64] []),
   ⟨false, [], [], .det 2 (.copy 15), [7, 15], (some 7), none⟩])
 (.seq (.join [⟨7, [.sl [.i .i64]], false⟩, ⟨12, [.sl [.i .u8], .i .i64, .i .i64], false⟩] 134156672 none (.seq (.rg [o1 8 (.lit [.i .i64] [.int .i64 (0)])])
 (.block 0 (.loop [⟨7, [.sl [.i .i64]], false⟩, ⟨12, [.sl [.i .u8], .i .i64, .i .i64], false⟩, ⟨8, [.i .i64], false⟩] 134156672
  (.seq (.seq (.rg [o1 16 (.copy 8),
    o1 17 (.copy 6),
    o1 18 (.data (.bin .lss) [.t 16, .t 17])])
  (.cond (.t 18)
   .skip
   (.exit 0)))
  (.seq (.block 1 (.rg [⟨false, [], [], .det 2 (.copy 7), [21, 7], (some 21), none⟩,
    o1 22 (.same 5),
    ⟨false, [], [], .call 2 92 [.t 12, .c [.i .i64] [.int .i64 (2)]] (.mp 0), [23, 12], (some 23), none⟩,
    o1 24 (.data (.bin .add) [.c (.int .i64 (1)), .t 23]),
    o1 25 (.sli [.i .i64] [.t 24]),
    ⟨false, [], [], .det 2 (.app (some 21) 25), [26, 21], (some 26), none⟩,
    ⟨false, [], [], .det 2 (.copy 26), [7, 26], (some 7), none⟩]))
  (.rg [o1 19 (.copy 8),
    o1 20 (.data (.bin .add) [.t 19, .c (.int .i64 (1))]),
    o1 8 (.copy 20)])))))))
 (.seq (.rg [o1 27 (.sli [.i .i64, .i .i64] []),
   ⟨false, [], [], .det 2 (.copy 27), [9, 27], (some 9), none⟩])
 (.seq (.join [⟨12, [.sl [.i .u8], .i .i64, .i .i64], false⟩, ⟨9, [.sl [.i .i64, .i .i64]], false⟩] 1099243197952 none (.seq (.rg [o1 10 (.lit [.i .i64] [.int .i64 (0)])])
 (.block 2 (.loop [⟨12, [.sl [.i .u8], .i .i64, .i .i64], false⟩, ⟨9, [.sl [.i .i64, .i .i64]], false⟩, ⟨10, [.i .i64], false⟩] 1099243197952
  (.seq (.seq (.rg [o1 28 (.copy 10),
    o1 29 (.same 5),
    ⟨false, [], [], .call 2 92 [.t 12, .c [.i .i64] [.int .i64 (8)]] (.mp 0), [30, 12], (some 30), none⟩,
    o1 31 (.data (.bin .lss) [.t 28, .t 30])])
  (.cond (.t 31)
   .skip
   (.exit 2)))
  (.seq (.block 3 (.rg [⟨false, [], [], .det 2 (.copy 9), [34, 9], (some 34), none⟩,
    o1 35 (.same 5),
    o1 36 (.copy 6),
    ⟨false, [], [], .call 2 93 [.t 12, .t 36] (.mp 0), [37, 12], (some 37), none⟩,
    o1 38 (.sli [.i .i64, .i .i64] [.t 37]),
    ⟨false, [], [], .det 2 (.app (some 34) 38), [39, 34], (some 39), none⟩,
    ⟨false, [], [], .det 2 (.copy 39), [9, 39], (some 9), none⟩]))
  (.rg [o1 32 (.copy 10),
    o1 33 (.data (.bin .add) [.t 32, .c (.int .i64 (1))]),
    o1 10 (.copy 33)])))))))
 (.seq (.join [⟨12, [.sl [.i .u8], .i .i64, .i .i64], false⟩, ⟨9, [.sl [.i .i64, .i .i64]], false⟩] 280375465087488 none (.seq (.rg [o1 40 (.same 5),
   ⟨false, [], [], .call 2 94 [.t 12, .c [.i .i64] [.int .i64 (10)]] (.mp 0), [41, 12], (some 41), none⟩])
 (.cond (.t 41)
  (.rg [⟨false, [], [], .det 2 (.copy 9), [42, 9], (some 42), none⟩,
    o1 43 (.same 5),
    o1 44 (.build [.i .i64, .sl [.i .i64, .i .i64]] []),
    ⟨false, [], [], .call 2 95 [.t 12, .t 44] (.mp 0), [45, 12], (some 45), none⟩,
    o1 46 (.sli [.i .i64, .i .i64] [.t 45]),
    ⟨false, [], [], .det 2 (.app (some 42) 46), [47, 42], (some 47), none⟩,
    ⟨false, [], [], .det 2 (.copy 47), [9, 47], (some 9), none⟩])
  .skip)))
 (.seq (.rg [⟨false, [], [], .det 2 (.copy 7), [48, 7], (some 48), none⟩,
   ⟨false, [], [], .det 2 (.copy 9), [49, 9], (some 49), none⟩,
   o1 50 (.same 5),
   ⟨false, [], [], .call 2 96 [.t 12, .c [.i .i64] [.int .i64 (3)]] (.mp 0), [51, 12], (some 51), none⟩,
   ⟨false, [], [], .det 2 (.copy 48), [2, 48], (some 2), none⟩,
   ⟨false, [], [], .det 2 (.copy 49), [3, 49], (some 3), none⟩,
   o1 4 (.copy 51)])
 .ret)))))))))
def s_sDrawInside : Sig := ⟨[.rd false [.sl (.own none) [.d]]], (.tup [(false, 1), (false, 1), (false, 1)] [.sl (.own none) [.d], .sl (.own none) [.d, .d], .d])⟩
noncomputable def E_sDrawInside : TEnv := envOf [(90, p_sl01New), (91, p_sl09N), (92, p_sl01Below), (93, p_sl05Edge), (94, p_sl01Once), (95, p_sl05AnyEdge), (96, p_sl01Place)]
noncomputable def f_sDrawInside (n : Nat) : List (Int) → Option ((List (Int) × List (Int × Int) × Int) × Unit) := runFn n E_sDrawInside c_sDrawInside [[.sl [.i .u8]]] [.sl [.i .i64], .sl [.i .i64, .i .i64], .i .i64] [] [2, 3, 4] .no
noncomputable def g_sDrawInside := f_sDrawInside BIG
noncomputable def p_sDrawInside : TSp := ⟨s_sDrawInside, [[.sl [.i .u8]]], [.sl [.i .i64], .sl [.i .i64, .i .i64], .i .i64], [], Ou.j .no, g_sDrawInside⟩
theorem k_sDrawInside : chkW PG E_sDrawInside 18 s_sDrawInside (c_sDrawInside.ht 52) .no = some (c_sDrawInside.wc E_sDrawInside, [2, 3, 4]) := by kernel_rfl
theorem ok_sDrawInside : p_sDrawInside.Ok PG 18 := mkOk (env_cons ok_sl01New (env_cons ok_sl09N (env_cons ok_sl01Below (env_cons ok_sl05Edge (env_cons ok_sl01Once (env_cons ok_sl05AnyEdge (env_cons ok_sl01Place (env_nil PG)))))))) k_sDrawInside (by kernel_rfl)
theorem e_sDrawInside (n : Nat) (a0 : List (Int)) : f_sDrawInside n a0 =
  Option.bind (g_sl01New a0) fun r0 =>
  Option.bind (g_sl09N r0.1) fun r1 =>
  Option.bind (loopT n (X := (List (Int)) × (List (Int) × Int × Int) × Int) (B := (List (Int)) × (List (Int) × Int × Int)) (fun self3 x2 =>
    bif decide (x2.2.2 < r1.1) then
     Option.bind (g_sl01Below (x2.2.1, (2 : Int))) fun r4 =>
     bif decide (x2.1.length + ([IntKind.wrap .i64 ((1 : Int) + r4.1)]).length ≤ 4294967296) then
      self3 (x2.1 ++ ([IntKind.wrap .i64 ((1 : Int) + r4.1)]), r4.2, IntKind.wrap .i64 (x2.2.2 + (1 : Int)))
     else none
    else some (x2.1, x2.2.1)) ([], r1.2, (0 : Int)) : Option ((List (Int)) × (List (Int) × Int × Int))) fun x5 =>
  Option.bind (loopT n (X := (List (Int) × Int × Int) × (List (Int × Int)) × Int) (B := (List (Int) × Int × Int) × (List (Int × Int))) (fun self7 x6 =>
    Option.bind (g_sl01Below (x6.1, (8 : Int))) fun r8 =>
    bif decide (x6.2.2 < r8.1) then
     Option.bind (g_sl05Edge (r8.2, r1.1)) fun r9 =>
     bif decide (x6.2.1.length + [r9.1].length ≤ 4294967296) then
      self7 (r9.2, x6.2.1 ++ [r9.1], IntKind.wrap .i64 (x6.2.2 + (1 : Int)))
     else none
    else some (r8.2, x6.2.1)) (x5.2, [], (0 : Int)) : Option ((List (Int) × Int × Int) × (List (Int × Int)))) fun x10 =>
  Option.bind (Option.bind (g_sl01Once (x10.1, (10 : Int))) fun r11 =>
   bif r11.1 then
    Option.bind (g_sl05AnyEdge (r11.2, ((0 : Int), []))) fun r12 =>
    bif decide (x10.2.length + [r12.1].length ≤ 4294967296) then
     some (r12.2, x10.2 ++ [r12.1])
    else none
   else some (r11.2, x10.2) : Option ((List (Int) × Int × Int) × (List (Int × Int)))) fun x13 =>
  Option.bind (g_sl01Place (x13.1, (3 : Int))) fun r14 =>
  some ((x5.1, x13.2, r14.1), ()) := by kernel_rfl
/- impl.in -/
def c_iin : TC :=
 (.seq (.rg [o1 6 (.lit [.b] [.bool false])])
 (.seq (.join [⟨6, [.b], false⟩] 32704 none (.rg [o1 7 (.copy 0),
   o1 8 (.copy 1),
   o1 9 (.data (.bin .geq) [.t 7, .t 8]),
   o1 10 (.copy 9),
   o2 11 (.copy 0) 3 true,
   o2 12 (.copy 2) 3 true,
   o2 13 (.data (.bin .leq) [.t 11, .t 12]) 3 true,
   ⟨false, [], [], .pick 10 (.t 13) (.c (.bool false)), [14], (some 14), none⟩,
   o1 6 (.copy 14)]))
 .ret))
def s_iin : Sig := ⟨[.rd false [.d], .rd false [.d], .rd false [.d]], (.one false [.d])⟩
noncomputable def E_iin : TEnv := envOf []
noncomputable def f_iin (n : Nat) : Int × Int × Int → Option ((Bool) × Unit) := runFn n E_iin c_iin [[.i .i64], [.i .i64], [.i .i64]] [.b] [] [6] .no
noncomputable def g_iin := f_iin BIG
noncomputable def p_iin : TSp := ⟨s_iin, [[.i .i64], [.i .i64], [.i .i64]], [.b], [], Ou.j .no, g_iin⟩
theorem k_iin : chkW PG E_iin 101 s_iin (c_iin.ht 15) .no = some (c_iin.wc E_iin, [6]) := by kernel_rfl
theorem ok_iin : p_iin.Ok PG 101 := mkOk (env_nil PG) k_iin (by kernel_rfl)
theorem e_iin (n : Nat) (a0 : Int) (a1 : Int) (a2 : Int) : f_iin n (a0, a1, a2) =
  Option.bind (bif decide (a1 ≤ a0) then
    some (decide (a0 ≤ a2))
   else some false : Option (Bool)) fun x0 =>
  some (x0, ()) := by kernel_rfl
/- impl.owns -/
def c_iowns : TC :=
 (.seq (.rg [o1 6 (.lit [.b] [.bool false])])
 (.seq (.join [⟨6, [.b], false⟩] 1048512 none (.rg [o1 7 (.copy 1),
   o1 8 (.copy 0),
   o1 9 (.len 8),
   o1 10 (.data (.bin .sub) [.t 9, .c (.int .i64 (1))]),
   o3 11 101 [.t 7, .c [.i .i64] [.int .i64 (0)], .t 10],
   o1 12 (.copy 11),
   o2 13 (.copy 0) 5 true,
   o2 14 (.copy 1) 5 true,
   o2 15 (.index 13 (.t 14)) 5 true,
   o2 16 (.load 13 [(0, 1)] 0 (.t 15) 1 false) 5 true,
   o2 17 (.copy 2) 5 true,
   o2 18 (.data (.bin .eql) [.t 16, .t 17]) 5 true,
   ⟨false, [], [], .pick 12 (.t 18) (.c (.bool false)), [19], (some 19), none⟩,
   o1 6 (.copy 19)]))
 .ret))
def s_iowns : Sig := ⟨[.rd false [.sl (.own none) [.d]], .rd false [.d], .rd false [.d]], (.one false [.d])⟩
noncomputable def E_iowns : TEnv := envOf [(101, p_iin)]
noncomputable def f_iowns (n : Nat) : List (Int) × Int × Int → Option ((Bool) × Unit) := runFn n E_iowns c_iowns [[.sl [.i .i64]], [.i .i64], [.i .i64]] [.b] [] [6] .no
noncomputable def g_iowns := f_iowns BIG
noncomputable def p_iowns : TSp := ⟨s_iowns, [[.sl [.i .i64]], [.i .i64], [.i .i64]], [.b], [], Ou.j .no, g_iowns⟩
theorem k_iowns : chkW PG E_iowns 97 s_iowns (c_iowns.ht 20) .no = some (c_iowns.wc E_iowns, [6]) := by kernel_rfl
theorem ok_iowns : p_iowns.Ok PG 97 := mkOk (env_cons ok_iin (env_nil PG)) k_iowns (by kernel_rfl)
theorem e_iowns (n : Nat) (a0 : List (Int)) (a1 : Int) (a2 : Int) : f_iowns n (a0, a1, a2) =
  Option.bind (Option.bind (g_iin (a1, (0 : Int), IntKind.wrap .i64 ((a0.length : Int) - (1 : Int)))) fun r0 =>
   bif r0.1 then
    bnd a0.length a1 fun n1 =>
    Option.bind a0[n1]? fun y2 =>
    some (decide (y2 = a2))
   else some false : Option (Bool)) fun x3 =>
  some (x3, ()) := by kernel_rfl
/- impl.Inside -/
def c_iInside : TC :=
 (.seq (.rg [o1 6 (.lit [.sl [.i .i64, .i .i64]] [.slice none 0 0])])
 (.seq (.rg [o1 7 (.lit [.sl [.i .i64, .i .i64]] [.slice none 0 0])])
 (.seq (.join [⟨7, [.sl [.i .i64, .i .i64]], false⟩] 8589934208 none (.seq (.rg [o1 10 (.copy 1),
   o1 11 (.len 10),
   o1 12 (.lit [.i .i64] [.int .i64 (0)])])
 (.block 0 (.loop [⟨7, [.sl [.i .i64, .i .i64]], false⟩, ⟨12, [.i .i64], false⟩] 8589931136
  (.seq (.rg [o1 13 (.data (.bin .lss) [.t 12, .t 11])])
  (.seq (.cond (.t 13)
   .skip
   (.exit 0))
  (.seq (.join [⟨7, [.sl [.i .i64, .i .i64]], false⟩] 4294951552 none (.block 1 (.seq (.rg [o1 14 (.index 10 (.t 12)),
    o1 15 (.load 10 [(0, 2)] 0 (.t 14) 2 false),
    ⟨false, [], [], .det 2 (.a (.c [.i .i64, .i .i64] [.int .i64 (0), .int .i64 (0)])), [9, 1000000001], (some 9), none⟩,
    o4 1 [9] (.store 9 [] 0 .nil (.t 15))])
  (.seq (.join [⟨27, [.b], false⟩] 268369920 none (.rg [o1 16 (.copy 0),
    o1 17 (.idx .nil),
    o1 18 (.load 9 [] 0 (.t 17) 1 false),
    o1 19 (.copy 2),
    o3 20 97 [.t 16, .t 18, .t 19],
    o1 21 (.copy 20),
    o2 22 (.copy 0) 5 true,
    o2 23 (.idx .nil) 5 true,
    o2 24 (.load 9 [] 1 (.t 23) 1 false) 5 true,
    o2 25 (.copy 2) 5 true,
    ⟨false, [], [], .call 1 97 [.t 22, .t 24, .t 25] .no, [26], (some 26), some (5, true)⟩,
    ⟨false, [], [], .pick 21 (.t 26) (.c (.bool false)), [27], (some 27), none⟩]))
  (.cond (.t 27)
   (.rg [⟨false, [], [], .det 2 (.copy 7), [28, 7], (some 28), none⟩,
     o1 29 (.load 9 [] 0 .nil 2 false),
     o1 30 (.sli [.i .i64, .i .i64] [.t 29]),
     ⟨false, [], [], .det 2 (.app (some 28) 30), [31, 28], (some 31), none⟩,
     ⟨false, [], [], .det 2 (.copy 31), [7, 31], (some 7), none⟩])
   .skip)))))
  (.rg [o1 32 (.data (.bin .add) [.t 12, .c (.int .i64 (1))]),
    o1 12 (.copy 32)]))))))))
 (.seq (.rg [⟨false, [], [], .det 2 (.copy 7), [33, 7], (some 33), none⟩,
   ⟨false, [], [], .det 2 (.copy 33), [6, 33], (some 6), none⟩])
 .ret))))
def s_iInside : Sig := ⟨[.rd false [.sl (.own none) [.d]], .rd false [.sl (.own none) [.d, .d]], .rd false [.d]], (.one false [.sl (.own none) [.d, .d]])⟩
noncomputable def E_iInside : TEnv := envOf [(97, p_iowns)]
noncomputable def f_iInside (n : Nat) : List (Int) × (List (Int × Int)) × Int → Option ((List (Int × Int)) × Unit) := runFn n E_iInside c_iInside [[.sl [.i .i64]], [.sl [.i .i64, .i .i64]], [.i .i64]] [.sl [.i .i64, .i .i64]] [] [6] .no
noncomputable def g_iInside := f_iInside BIG
noncomputable def p_iInside : TSp := ⟨s_iInside, [[.sl [.i .i64]], [.sl [.i .i64, .i .i64]], [.i .i64]], [.sl [.i .i64, .i .i64]], [], Ou.j .no, g_iInside⟩
theorem k_iInside : chkW PG E_iInside 19 s_iInside (c_iInside.ht 34) .no = some (c_iInside.wc E_iInside, [6]) := by kernel_rfl
theorem ok_iInside : p_iInside.Ok PG 19 := mkOk (env_cons ok_iowns (env_nil PG)) k_iInside (by kernel_rfl)
theorem e_iInside (n : Nat) (a0 : List (Int)) (a1 : List (Int × Int)) (a2 : Int) : f_iInside n (a0, a1, a2) =
  Option.bind (loopT n (X := (List (Int × Int)) × Int) (B := (List (Int × Int))) (fun self1 x0 =>
    bif decide (x0.2 < (a1.length : Int)) then
     Option.bind (bnd a1.length x0.2 fun n2 =>
      Option.bind a1[n2]? fun y3 =>
      Option.bind (Option.bind (g_iowns (a0, y3.1, a2)) fun r4 =>
       bif r4.1 then
        Option.bind (g_iowns (a0, y3.2, a2)) fun r5 =>
        some r5.1
       else some false : Option (Bool)) fun x6 =>
      bif x6 then
       bif decide (x0.1.length + [y3].length ≤ 4294967296) then
        some (x0.1 ++ [y3])
       else none
      else some x0.1 : Option ((List (Int × Int)))) fun x7 =>
     self1 (x7, IntKind.wrap .i64 (x0.2 + (1 : Int)))
    else some x0.1) ([], (0 : Int)) : Option ((List (Int × Int)))) fun x8 =>
  some (x8, ()) := by kernel_rfl
/- spec.l01In -/
def c_sl01In : TC :=
 (.seq (.rg [o1 6 (.lit [.b] [.bool false])])
 (.seq (.join [⟨6, [.b], false⟩] 32704 none (.rg [o1 7 (.copy 0),
   o1 8 (.copy 1),
   o1 9 (.data (.bin .geq) [.t 7, .t 8]),
   o1 10 (.copy 9),
   o2 11 (.copy 0) 3 true,
   o2 12 (.copy 2) 3 true,
   o2 13 (.data (.bin .leq) [.t 11, .t 12]) 3 true,
   ⟨false, [], [], .pick 10 (.t 13) (.c (.bool false)), [14], (some 14), none⟩,
   o1 6 (.copy 14)]))
 .ret))
def s_sl01In : Sig := ⟨[.rd false [.d], .rd false [.d], .rd false [.d]], (.one false [.d])⟩
noncomputable def E_sl01In : TEnv := envOf []
noncomputable def f_sl01In (n : Nat) : Int × Int × Int → Option ((Bool) × Unit) := runFn n E_sl01In c_sl01In [[.i .i64], [.i .i64], [.i .i64]] [.b] [] [6] .no
noncomputable def g_sl01In := f_sl01In BIG
noncomputable def p_sl01In : TSp := ⟨s_sl01In, [[.i .i64], [.i .i64], [.i .i64]], [.b], [], Ou.j .no, g_sl01In⟩
theorem k_sl01In : chkW PG E_sl01In 98 s_sl01In (c_sl01In.ht 15) .no = some (c_sl01In.wc E_sl01In, [6]) := by kernel_rfl
theorem ok_sl01In : p_sl01In.Ok PG 98 := mkOk (env_nil PG) k_sl01In (by kernel_rfl)
theorem e_sl01In (n : Nat) (a0 : Int) (a1 : Int) (a2 : Int) : f_sl01In n (a0, a1, a2) =
  Option.bind (bif decide (a1 ≤ a0) then
    some (decide (a0 ≤ a2))
   else some false : Option (Bool)) fun x0 =>
  some (x0, ()) := by kernel_rfl
/- spec.Inside -/
def c_sInside : TC :=
 (.seq (.rg [o1 6 (.lit [.sl [.i .i64, .i .i64]] [.slice none 0 0])])
 (.seq (.rg [o1 10 (.sli [.i .i64, .i .i64] []),
   ⟨false, [], [], .det 2 (.copy 10), [7, 10], (some 7), none⟩])
 (.seq (.join [⟨7, [.sl [.i .i64, .i .i64]], false⟩] 144115188075854720 none (.seq (.rg [o1 8 (.lit [.i .i64] [.int .i64 (0)])])
 (.block 0 (.loop [⟨7, [.sl [.i .i64, .i .i64]], false⟩, ⟨8, [.i .i64], false⟩] 144115188075854720
  (.seq (.seq (.rg [o1 11 (.copy 8),
    o1 12 (.copy 1),
    o1 13 (.len 12),
    o1 14 (.data (.bin .lss) [.t 11, .t 13])])
  (.cond (.t 14)
   .skip
   (.exit 0)))
  (.seq (.join [⟨7, [.sl [.i .i64, .i .i64]], false⟩] 144115188075725440 none (.block 1 (.seq (.rg [o1 17 (.copy 1),
    o1 18 (.copy 8),
    o1 19 (.index 17 (.t 18)),
    o1 20 (.load 17 [(0, 2)] 0 (.t 19) 2 false),
    ⟨false, [], [], .det 2 (.a (.c [.i .i64, .i .i64] [.int .i64 (0), .int .i64 (0)])), [9, 1000000001], (some 9), none⟩,
    o4 1 [9] (.store 9 [] 0 .nil (.t 20))])
  (.seq (.join [⟨52, [.b], false⟩] 9007199252643840 none (.rg [o1 21 (.idx .nil),
    o1 22 (.load 9 [] 0 (.t 21) 1 false),
    o1 23 (.copy 0),
    o1 24 (.len 23),
    o1 25 (.data (.bin .sub) [.t 24, .c (.int .i64 (1))]),
    o3 26 98 [.t 22, .c [.i .i64] [.int .i64 (0)], .t 25],
    o1 27 (.copy 26),
    o2 28 (.idx .nil) 6 true,
    o2 29 (.load 9 [] 1 (.t 28) 1 false) 6 true,
    o2 30 (.copy 0) 6 true,
    o2 31 (.len 30) 6 true,
    o2 32 (.data (.bin .sub) [.t 31, .c (.int .i64 (1))]) 6 true,
    ⟨false, [], [], .call 1 98 [.t 29, .c [.i .i64] [.int .i64 (0)], .t 32] .no, [33], (some 33), some (6, true)⟩,
    ⟨false, [], [], .pick 27 (.t 33) (.c (.bool false)), [34], (some 34), none⟩,
    o1 35 (.copy 34),
    o2 36 (.copy 0) 14 true,
    o2 37 (.idx .nil) 14 true,
    o2 38 (.load 9 [] 0 (.t 37) 1 false) 14 true,
    o2 39 (.index 36 (.t 38)) 14 true,
    o2 40 (.load 36 [(0, 1)] 0 (.t 39) 1 false) 14 true,
    o2 41 (.copy 2) 14 true,
    o2 42 (.data (.bin .eql) [.t 40, .t 41]) 14 true,
    ⟨false, [], [], .pick 35 (.t 42) (.c (.bool false)), [43], (some 43), none⟩,
    o1 44 (.copy 43),
    o2 45 (.copy 0) 23 true,
    o2 46 (.idx .nil) 23 true,
    o2 47 (.load 9 [] 1 (.t 46) 1 false) 23 true,
    o2 48 (.index 45 (.t 47)) 23 true,
    o2 49 (.load 45 [(0, 1)] 0 (.t 48) 1 false) 23 true,
    o2 50 (.copy 2) 23 true,
    o2 51 (.data (.bin .eql) [.t 49, .t 50]) 23 true,
    ⟨false, [], [], .pick 44 (.t 51) (.c (.bool false)), [52], (some 52), none⟩]))
  (.cond (.t 52)
   (.rg [⟨false, [], [], .det 2 (.copy 7), [53, 7], (some 53), none⟩,
     o1 54 (.load 9 [] 0 .nil 2 false),
     o1 55 (.sli [.i .i64, .i .i64] [.t 54]),
     ⟨false, [], [], .det 2 (.app (some 53) 55), [56, 53], (some 56), none⟩,
     ⟨false, [], [], .det 2 (.copy 56), [7, 56], (some 7), none⟩])
   .skip)))))
  (.rg [o1 15 (.copy 8),
    o1 16 (.data (.bin .add) [.t 15, .c (.int .i64 (1))]),
    o1 8 (.copy 16)])))))))
 (.seq (.rg [⟨false, [], [], .det 2 (.copy 7), [57, 7], (some 57), none⟩,
   ⟨false, [], [], .det 2 (.copy 57), [6, 57], (some 6), none⟩])
 .ret))))
def s_sInside : Sig := ⟨[.rd false [.sl (.own none) [.d]], .rd false [.sl (.own none) [.d, .d]], .rd false [.d]], (.one false [.sl (.own none) [.d, .d]])⟩
noncomputable def E_sInside : TEnv := envOf [(98, p_sl01In)]
noncomputable def f_sInside (n : Nat) : List (Int) × (List (Int × Int)) × Int → Option ((List (Int × Int)) × Unit) := runFn n E_sInside c_sInside [[.sl [.i .i64]], [.sl [.i .i64, .i .i64]], [.i .i64]] [.sl [.i .i64, .i .i64]] [] [6] .no
noncomputable def g_sInside := f_sInside BIG
noncomputable def p_sInside : TSp := ⟨s_sInside, [[.sl [.i .i64]], [.sl [.i .i64, .i .i64]], [.i .i64]], [.sl [.i .i64, .i .i64]], [], Ou.j .no, g_sInside⟩
theorem k_sInside : chkW PG E_sInside 20 s_sInside (c_sInside.ht 58) .no = some (c_sInside.wc E_sInside, [6]) := by kernel_rfl
theorem ok_sInside : p_sInside.Ok PG 20 := mkOk (env_cons ok_sl01In (env_nil PG)) k_sInside (by kernel_rfl)
theorem e_sInside (n : Nat) (a0 : List (Int)) (a1 : List (Int × Int)) (a2 : Int) : f_sInside n (a0, a1, a2) =
  Option.bind (loopT n (X := (List (Int × Int)) × Int) (B := (List (Int × Int))) (fun self1 x0 =>
    bif decide (x0.2 < (a1.length : Int)) then
     Option.bind (bnd a1.length x0.2 fun n2 =>
      Option.bind a1[n2]? fun y3 =>
      Option.bind (Option.bind (g_sl01In (y3.1, (0 : Int), IntKind.wrap .i64 ((a0.length : Int) - (1 : Int)))) fun r4 =>
       bif r4.1 then
        Option.bind (g_sl01In (y3.2, (0 : Int), IntKind.wrap .i64 ((a0.length : Int) - (1 : Int)))) fun r5 =>
        bif r5.1 then
         bnd a0.length y3.1 fun n6 =>
         Option.bind a0[n6]? fun y7 =>
         bif decide (y7 = a2) then
          bnd a0.length y3.2 fun n8 =>
          Option.bind a0[n8]? fun y9 =>
          some (decide (y9 = a2))
         else some false
        else some false
       else some false : Option (Bool)) fun x10 =>
      bif x10 then
       bif decide (x0.1.length + [y3].length ≤ 4294967296) then
        some (x0.1 ++ [y3])
       else none
      else some x0.1 : Option ((List (Int × Int)))) fun x11 =>
     self1 (x11, IntKind.wrap .i64 (x0.2 + (1 : Int)))
    else some x0.1) ([], (0 : Int)) : Option ((List (Int × Int)))) fun x12 =>
  some (x12, ()) := by kernel_rfl
/- laws.sameEdges -/
def c_lsameEdges : TC :=
 (.seq (.rg [o1 4 (.lit [.b] [.bool false])])
 (.seq (.seq (.rg [o1 6 (.copy 0),
   o1 7 (.len 6),
   o1 8 (.copy 1),
   o1 9 (.len 8),
   o1 10 (.data (.bin .neq) [.t 7, .t 9])])
 (.cond (.t 10)
  (.seq (.rg [o1 4 (.lit [.b] [.bool false])])
  .ret)
  .skip))
 (.seq (.join [] 67106864 (some [⟨4, [.b], false⟩]) (.seq (.rg [o1 5 (.lit [.i .i64] [.int .i64 (0)])])
 (.block 0 (.loop [⟨5, [.i .i64], false⟩] 67106864
  (.seq (.seq (.rg [o1 11 (.copy 5),
    o1 12 (.copy 0),
    o1 13 (.len 12),
    o1 14 (.data (.bin .lss) [.t 11, .t 13])])
  (.cond (.t 14)
   .skip
   (.exit 0)))
  (.seq (.block 1 (.seq (.rg [o1 17 (.copy 0),
    o1 18 (.copy 5),
    o1 19 (.index 17 (.t 18)),
    o1 20 (.load 17 [(0, 2)] 0 (.t 19) 2 false),
    o1 21 (.copy 1),
    o1 22 (.copy 5),
    o1 23 (.index 21 (.t 22)),
    o1 24 (.load 21 [(0, 2)] 0 (.t 23) 2 false),
    o1 25 (.eqA [.i, .i] (.t 20) (.t 24) true)])
  (.cond (.t 25)
   (.seq (.rg [o1 4 (.lit [.b] [.bool false])])
   .ret)
   .skip)))
  (.rg [o1 15 (.copy 5),
    o1 16 (.data (.bin .add) [.t 15, .c (.int .i64 (1))]),
    o1 5 (.copy 16)])))))))
 (.seq (.rg [o1 4 (.lit [.b] [.bool true])])
 .ret))))
def s_lsameEdges : Sig := ⟨[.rd false [.sl (.own none) [.d, .d]], .rd false [.sl (.own none) [.d, .d]]], (.one false [.d])⟩
noncomputable def E_lsameEdges : TEnv := envOf []
noncomputable def f_lsameEdges (n : Nat) : (List (Int × Int)) × (List (Int × Int)) → Option ((Bool) × Unit) := runFn n E_lsameEdges c_lsameEdges [[.sl [.i .i64, .i .i64]], [.sl [.i .i64, .i .i64]]] [.b] [] [4] .no
noncomputable def g_lsameEdges := f_lsameEdges BIG
noncomputable def p_lsameEdges : TSp := ⟨s_lsameEdges, [[.sl [.i .i64, .i .i64]], [.sl [.i .i64, .i .i64]]], [.b], [], Ou.j .no, g_lsameEdges⟩
theorem k_lsameEdges : chkW PG E_lsameEdges 21 s_lsameEdges (c_lsameEdges.ht 26) .no = some (c_lsameEdges.wc E_lsameEdges, [4]) := by kernel_rfl
theorem ok_lsameEdges : p_lsameEdges.Ok PG 21 := mkOk (env_nil PG) k_lsameEdges (by kernel_rfl)
theorem e_lsameEdges (n : Nat) (a0 : List (Int × Int)) (a1 : List (Int × Int)) : f_lsameEdges n (a0, a1) =
  bif !decide ((a0.length : Int) = (a1.length : Int)) then
   some (false, ())
  else Option.bind (loopT n (X := Int) (B := (Unit) ⊕ (Bool)) (fun self1 x0 =>
    bif decide (x0 < (a0.length : Int)) then
     bnd a0.length x0 fun n2 =>
     Option.bind a0[n2]? fun y3 =>
     bnd a1.length x0 fun n4 =>
     Option.bind a1[n4]? fun y5 =>
     bif !(decide (y3.1 = y5.1) && (decide (y3.2 = y5.2) && true)) then
      some (Sum.inr false)
     else self1 (IntKind.wrap .i64 (x0 + (1 : Int)))
    else some (Sum.inl ())) (0 : Int) : Option ((Unit) ⊕ (Bool))) fun y => match y with
  | .inl x6 =>
   some (true, ())
  | .inr x6 =>
   some (x6, ()) := by kernel_rfl
/- laws.FnInside -/
def c_lFnInside : TC :=
 (.seq (.rg [o1 2 (.lit [.b] [.bool false])])
 (.seq (.seq (.rg [o1 11 (.copy 0),
   o3 12 17 [.t 11]])
 (.cond (.t 12)
  (.seq (.rg [o1 2 (.lit [.b] [.bool true])])
  .ret)
  .skip))
 (.seq (.rg [o1 14 (.copy 0),
   o3 15 18 [.t 14],
   ⟨false, [], [], .det 2 (.copy 15), [13, 15], (some 13), none⟩,
   ⟨false, [], [], .det 2 (.ext 13 0 1), [16, 13], (some 16), none⟩,
   ⟨false, [], [], .det 2 (.ext 13 1 1), [17, 13], (some 17), none⟩,
   o1 18 (.ext 13 2 1),
   ⟨false, [], [], .det 2 (.copy 16), [3, 16], (some 3), none⟩,
   ⟨false, [], [], .det 2 (.copy 17), [4, 17], (some 4), none⟩,
   o1 5 (.copy 18)])
 (.seq (.rg [⟨true, [], [], .det 1 (.copy 3), [19], (some 19), none⟩,
   ⟨true, [], [], .det 1 (.copy 4), [20], (some 20), none⟩,
   o1 21 (.copy 5),
   o3 22 19 [.t 19, .t 20, .t 21],
   ⟨false, [], [], .det 2 (.copy 22), [6, 22], (some 6), none⟩])
 (.seq (.rg [⟨true, [], [], .det 1 (.copy 3), [23], (some 23), none⟩,
   ⟨true, [], [], .det 1 (.copy 4), [24], (some 24), none⟩,
   o1 25 (.copy 5),
   o3 26 20 [.t 23, .t 24, .t 25],
   ⟨false, [], [], .det 2 (.copy 26), [7, 26], (some 7), none⟩])
 (.seq (.rg [o1 8 (.lit [.i .i64] [.int .i64 (0)])])
 (.seq (.join [⟨8, [.i .i64], false⟩] 604462909807314453137152 none (.seq (.rg [o1 9 (.lit [.i .i64] [.int .i64 (0)])])
 (.block 0 (.loop [⟨8, [.i .i64], false⟩, ⟨9, [.i .i64], false⟩] 604462909807314453137152
  (.seq (.seq (.rg [o1 27 (.copy 9),
    ⟨true, [], [], .det 1 (.copy 4), [28], (some 28), none⟩,
    o1 29 (.len 28),
    o1 30 (.data (.bin .lss) [.t 27, .t 29])])
  (.cond (.t 30)
   .skip
   (.exit 0)))
  (.seq (.join [⟨8, [.i .i64], false⟩] 604462909807305997419776 none (.block 1 (.seq (.rg [⟨true, [], [], .det 1 (.copy 4), [33], (some 33), none⟩,
    o1 34 (.copy 9),
    o1 35 (.index 33 (.t 34)),
    o1 36 (.load 4 [(0, 2)] 0 (.t 35) 2 false),
    ⟨false, [], [], .det 2 (.a (.c [.i .i64, .i .i64] [.int .i64 (0), .int .i64 (0)])), [10, 1000000001], (some 10), none⟩,
    o4 1 [10] (.store 10 [] 0 .nil (.t 36))])
  (.seq (.join [⟨76, [.b], false⟩] 151115727451691207884800 none (.rg [o1 37 (.idx .nil),
    o1 38 (.load 10 [] 0 (.t 37) 1 false),
    o1 39 (.data (.bin .geq) [.t 38, .c (.int .i64 (0))]),
    o1 40 (.copy 39),
    o2 41 (.idx .nil) 3 true,
    o2 42 (.load 10 [] 1 (.t 41) 1 false) 3 true,
    o2 43 (.data (.bin .geq) [.t 42, .c (.int .i64 (0))]) 3 true,
    ⟨false, [], [], .pick 40 (.t 43) (.c (.bool false)), [44], (some 44), none⟩,
    o1 45 (.copy 44),
    o2 46 (.idx .nil) 8 true,
    o2 47 (.load 10 [] 0 (.t 46) 1 false) 8 true,
    ⟨true, [], [], .det 1 (.copy 3), [48], (some 48), some (8, true)⟩,
    o2 49 (.len 48) 8 true,
    o2 50 (.data (.bin .lss) [.t 47, .t 49]) 8 true,
    ⟨false, [], [], .pick 45 (.t 50) (.c (.bool false)), [51], (some 51), none⟩,
    o1 52 (.copy 51),
    o2 53 (.idx .nil) 15 true,
    o2 54 (.load 10 [] 1 (.t 53) 1 false) 15 true,
    ⟨true, [], [], .det 1 (.copy 3), [55], (some 55), some (15, true)⟩,
    o2 56 (.len 55) 15 true,
    o2 57 (.data (.bin .lss) [.t 54, .t 56]) 15 true,
    ⟨false, [], [], .pick 52 (.t 57) (.c (.bool false)), [58], (some 58), none⟩,
    o1 59 (.copy 58),
    ⟨true, [], [], .det 1 (.copy 3), [60], (some 60), some (22, true)⟩,
    o2 61 (.idx .nil) 22 true,
    o2 62 (.load 10 [] 0 (.t 61) 1 false) 22 true,
    o2 63 (.index 60 (.t 62)) 22 true,
    o2 64 (.load 3 [(0, 1)] 0 (.t 63) 1 false) 22 true,
    o2 65 (.copy 5) 22 true,
    o2 66 (.data (.bin .eql) [.t 64, .t 65]) 22 true,
    ⟨false, [], [], .pick 59 (.t 66) (.c (.bool false)), [67], (some 67), none⟩,
    o1 68 (.copy 67),
    ⟨true, [], [], .det 1 (.copy 3), [69], (some 69), some (31, true)⟩,
    o2 70 (.idx .nil) 31 true,
    o2 71 (.load 10 [] 1 (.t 70) 1 false) 31 true,
    o2 72 (.index 69 (.t 71)) 31 true,
    o2 73 (.load 3 [(0, 1)] 0 (.t 72) 1 false) 31 true,
    o2 74 (.copy 5) 31 true,
    o2 75 (.data (.bin .eql) [.t 73, .t 74]) 31 true,
    ⟨false, [], [], .pick 68 (.t 75) (.c (.bool false)), [76], (some 76), none⟩]))
  (.cond (.t 76)
   (.rg [o1 77 (.copy 8),
     o1 78 (.data (.bin .add) [.t 77, .c (.int .i64 (1))]),
     o1 8 (.copy 78)])
   .skip)))))
  (.rg [o1 31 (.copy 9),
    o1 32 (.data (.bin .add) [.t 31, .c (.int .i64 (1))]),
    o1 9 (.copy 32)])))))))
 (.seq (.join [⟨2, [.b], false⟩] 158455720565618867872509460684 none (.rg [⟨true, [], [], .det 1 (.copy 6), [79], (some 79), none⟩,
   ⟨false, [], [], .det 2 (.copy 7), [80, 7], (some 80), none⟩,
   o3 81 21 [.t 79, .t 80],
   o1 82 (.copy 81),
   ⟨false, [], [], .det 2 (.copy 6), [83, 6, 79], (some 83), some (3, true)⟩,
   o2 84 (.len 83) 3 true,
   o2 85 (.copy 8) 3 true,
   o2 86 (.data (.bin .eql) [.t 84, .t 85]) 3 true,
   ⟨false, [], [], .pick 82 (.t 86) (.c (.bool false)), [87], (some 87), none⟩,
   o1 88 (.copy 87),
   ⟨false, [], [], .det 2 (.copy 3), [89, 3, 19, 23], (some 89), some (9, true)⟩,
   o2 90 (.len 89) 9 true,
   o2 91 (.data (.bin .gtr) [.t 90, .c (.int .i64 (0))]) 9 true,
   o2 92 (.copy 91) 9 true,
   o2 93 (.copy 8) 13 false,
   o2 94 (.data (.bin .eql) [.t 93, .c (.int .i64 (0))]) 13 false,
   ⟨false, [], [], .pick 92 (.c (.bool true)) (.t 94), [95], (some 95), some (9, true)⟩,
   ⟨false, [], [], .pick 88 (.t 95) (.c (.bool false)), [96], (some 96), none⟩,
   o1 2 (.copy 96)]))
 .ret))))))))
def s_lFnInside : Sig := ⟨[.rd false [.sl (.own none) [.d]]], (.one false [.d])⟩
noncomputable def E_lFnInside : TEnv := envOf [(17, p_lbig), (18, p_sDrawInside), (19, p_iInside), (20, p_sInside), (21, p_lsameEdges)]
noncomputable def f_lFnInside (n : Nat) : List (Int) → Option ((Bool) × Unit) := runFn n E_lFnInside c_lFnInside [[.sl [.i .u8]]] [.b] [] [2] .no
noncomputable def g_lFnInside := f_lFnInside BIG
noncomputable def p_lFnInside : TSp := ⟨s_lFnInside, [[.sl [.i .u8]]], [.b], [], Ou.j .no, g_lFnInside⟩
theorem k_lFnInside : chkW PG E_lFnInside 3 s_lFnInside (c_lFnInside.ht 97) .no = some (c_lFnInside.wc E_lFnInside, [2]) := by kernel_rfl
theorem ok_lFnInside : p_lFnInside.Ok PG 3 := mkOk (env_cons ok_lbig (env_cons ok_sDrawInside (env_cons ok_iInside (env_cons ok_sInside (env_cons ok_lsameEdges (env_nil PG)))))) k_lFnInside (by kernel_rfl)
theorem e_lFnInside (n : Nat) (a0 : List (Int)) : f_lFnInside n a0 =
  Option.bind (g_lbig a0) fun r0 =>
  bif r0.1 then
   some (true, ())
  else Option.bind (g_sDrawInside a0) fun r1 =>
  Option.bind (g_iInside (r1.1.1, r1.1.2.1, r1.1.2.2)) fun r2 =>
  Option.bind (g_sInside (r1.1.1, r1.1.2.1, r1.1.2.2)) fun r3 =>
  Option.bind (loopT n (X := Int × Int) (B := Int) (fun self5 x4 =>
    bif decide (x4.2 < (r1.1.2.1.length : Int)) then
     Option.bind (bnd r1.1.2.1.length x4.2 fun n6 =>
      Option.bind r1.1.2.1[n6]? fun y7 =>
      Option.bind (bif decide ((0 : Int) ≤ y7.1) then
        bif decide ((0 : Int) ≤ y7.2) then
         bif decide (y7.1 < (r1.1.1.length : Int)) then
          bif decide (y7.2 < (r1.1.1.length : Int)) then
           bnd r1.1.1.length y7.1 fun n8 =>
           Option.bind r1.1.1[n8]? fun y9 =>
           bif decide (y9 = r1.1.2.2) then
            bnd r1.1.1.length y7.2 fun n10 =>
            Option.bind r1.1.1[n10]? fun y11 =>
            some (decide (y11 = r1.1.2.2))
           else some false
          else some false
         else some false
        else some false
       else some false : Option (Bool)) fun x12 =>
      bif x12 then
       some (IntKind.wrap .i64 (x4.1 + (1 : Int)))
      else some x4.1 : Option (Int)) fun x13 =>
     self5 (x13, IntKind.wrap .i64 (x4.2 + (1 : Int)))
    else some x4.1) ((0 : Int), (0 : Int)) : Option (Int)) fun x14 =>
  Option.bind (Option.bind (g_lsameEdges (r2.1, r3.1)) fun r15 =>
   bif r15.1 then
    bif decide ((r2.1.length : Int) = x14) then
     bif decide ((0 : Int) < (r1.1.1.length : Int)) then
      some true
     else some (decide (x14 = (0 : Int)))
    else some false
   else some false : Option (Bool)) fun x16 =>
  some (x16, ()) := by kernel_rfl
end Go.Fw
