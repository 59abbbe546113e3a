/- The given functions, as what they compute; each is shown to be what the code does. No conditions. -/
import Derived.Test.YtojipknoidbbgaaG5
import Derived.Test.YtojipknoidbbgaaProg
set_option linter.unusedVariables false
set_option linter.unusedSimpArgs false
namespace Go.Fw
noncomputable abbrev PG := Go.Proofs.Try.prog
def o2 (d : Nat) (e : ED) (j : Nat) (b : Bool) : TO := ⟨false, [], [], .det 1 e, [d], some d, some (j, b)⟩
def o3 (d : Nat) (K : FuncId) (gets : List OY) : TO := ⟨false, [], [], .call 1 K gets .no, [d], some d, none⟩
def o4 (n : Nat) (ds : List Nat) (e : ED) : TO := ⟨false, [], [], .det n e, ds, none, none⟩
end Go.Fw
namespace Go.Fw
/- laws.big -/
def c_lbig : TC :=
 (.seq (.rg [o1 2 (.lit [.b] [.bool false])])
 (.seq (.rg [o1 3 (.copy 0),
   o1 4 (.len 3),
   o1 5 (.data (.bin .gtr) [.t 4, .c (.int .i64 (1048576))]),
   o1 2 (.copy 5)])
 .ret))
def s_lbig : Sig := ⟨[.rd false [.sl (.own none) [.d]]], (.one false [.d])⟩
noncomputable def E_lbig : TEnv := envOf []
noncomputable def f_lbig (n : Nat) : List (Int) → Option ((Bool) × Unit) := runFn n E_lbig c_lbig [[.sl [.i .u8]]] [.b] [] [2] .no
noncomputable def g_lbig := f_lbig BIG
noncomputable def p_lbig : TSp := ⟨s_lbig, [[.sl [.i .u8]]], [.b], [], Ou.j .no, g_lbig⟩
theorem k_lbig : chkW PG E_lbig 17 s_lbig (c_lbig.ht 6) .no = some (c_lbig.wc E_lbig, [2]) := by kernel_rfl
theorem ok_lbig : p_lbig.Ok PG 17 := mkOk (env_nil PG) k_lbig (by kernel_rfl)
theorem e_lbig (n : Nat) (a0 : List (Int)) : f_lbig n a0 =
  some (decide ((1048576 : Int) < (a0.length : Int)), ()) := by kernel_rfl
/- spec.l01New -/
def c_sl01New : TC :=
 (.seq (.rg [o1 2 (.nl)])
 (.seq (.rg [o1 5 (.copy 0),
   o1 6 (.len 5),
   o1 7 (.data (.bin .add) [.c (.int .i64 (13501)), .t 6]),
   o1 3 (.copy 7)])
 (.seq (.join [⟨3, [.i .i64], false⟩] 268435224 none (.seq (.rg [o1 4 (.lit [.i .i64] [.int .i64 (0)])])
 (.block 0 (.loop [⟨3, [.i .i64], false⟩, ⟨4, [.i .i64], false⟩] 268435224
  (.seq (.seq (.join [⟨15, [.b], false⟩] 65280 none (.rg [o1 8 (.copy 4),
    o1 9 (.copy 0),
    o1 10 (.len 9),
    o1 11 (.data (.bin .lss) [.t 8, .t 10]),
    o1 12 (.copy 11),
    o2 13 (.copy 4) 4 true,
    o2 14 (.data (.bin .lss) [.t 13, .c (.int .i64 (4000))]) 4 true,
    ⟨false, [], [], .pick 12 (.t 14) (.c (.bool false)), [15], (some 15), none⟩]))
  (.cond (.t 15)
   .skip
   (.exit 0)))
  (.seq (.block 1 (.rg [o1 18 (.copy 3),
    o1 19 (.data (.bin .mul) [.t 18, .c (.int .i64 (131))]),
    o1 20 (.copy 0),
    o1 21 (.copy 4),
    o1 22 (.index 20 (.t 21)),
    o1 23 (.load 20 [(0, 1)] 0 (.t 22) 1 false),
    o1 24 (.data (.conv .i64) [.t 23]),
    o1 25 (.data (.bin .add) [.t 19, .t 24]),
    o1 26 (.data (.bin .add) [.t 25, .c (.int .i64 (7))]),
    o1 27 (.data (.bin .and) [.t 26, .c (.int .i64 (1073741823))]),
    o1 3 (.copy 27)]))
  (.rg [o1 16 (.copy 4),
    o1 17 (.data (.bin .add) [.t 16, .c (.int .i64 (1))]),
    o1 4 (.copy 17)])))))))
 (.seq (.rg [o1 28 (.copy 0),
   o1 29 (.copy 3),
   o1 30 (.build [.sl [.i .u8], .i .i64, .i .i64] [(0, .t 28), (2, .t 29)]),
   o1 31 (.a (.t 30)),
   ⟨true, [], [], .det 2 (.copy 31), [2, 31], (some 2), none⟩])
 .ret))))
def s_sl01New : Sig := ⟨[.rd false [.sl (.own none) [.d]]], (.bx [.sl (.ro [0]) [.d], .d, .d])⟩
noncomputable def E_sl01New : TEnv := envOf []
noncomputable def f_sl01New (n : Nat) : List (Int) → Option ((List (Int) × Int × Int) × Unit) := runFn n E_sl01New c_sl01New [[.sl [.i .u8]]] [.sl [.i .u8], .i .i64, .i .i64] [] [2] .no
noncomputable def g_sl01New := f_sl01New BIG
noncomputable def p_sl01New : TSp := ⟨s_sl01New, [[.sl [.i .u8]]], [.sl [.i .u8], .i .i64, .i .i64], [], Ou.j .no, g_sl01New⟩
theorem k_sl01New : chkW PG E_sl01New 90 s_sl01New (c_sl01New.ht 32) .no = some (c_sl01New.wc E_sl01New, [2]) := by kernel_rfl
theorem ok_sl01New : p_sl01New.Ok PG 90 := mkOk (env_nil PG) k_sl01New (by kernel_rfl)
theorem e_sl01New (n : Nat) (a0 : List (Int)) : f_sl01New n a0 =
  Option.bind (loopT n (X := Int × Int) (B := Int) (fun self1 x0 =>
    Option.bind (bif decide (x0.2 < (a0.length : Int)) then
      some (decide (x0.2 < (4000 : Int)))
     else some false : Option (Bool)) fun x2 =>
    bif x2 then
     bnd a0.length x0.2 fun n3 =>
     Option.bind a0[n3]? fun y4 =>
     self1 (bits .and .i64 (IntKind.wrap .i64 ((IntKind.wrap .i64 ((IntKind.wrap .i64 (x0.1 * (131 : Int))) + (IntKind.wrap .i64 (y4)))) + (7 : Int))) (1073741823 : Int), IntKind.wrap .i64 (x0.2 + (1 : Int)))
    else some x0.1) (IntKind.wrap .i64 ((13501 : Int) + (a0.length : Int)), (0 : Int)) : Option (Int)) fun x5 =>
  some ((a0, (0 : Int), x5), ()) := by kernel_rfl
/- spec.l01Byte -/
def c_sl01Byte : TC :=
 (.seq (.rg [o1 2 (.lit [.i .i64] [.int .i64 (0)])])
 (.seq (.rg [o1 4 (.p0),
   o1 5 (.p0),
   o1 6 (.same 5),
   o1 7 (.idx (.t 6)),
   o1 8 (.load 0 [] 2 (.t 7) 1 false),
   o1 9 (.data (.bin .mul) [.t 8, .c (.int .i64 (6364136223846793005))]),
   o1 10 (.data (.bin .add) [.t 9, .c (.int .i64 (1442695040888963407))]),
   o1 11 (.same 4),
   o1 12 (.idx (.t 11)),
   o4 1 [0] (.store 0 [] 2 (.t 12) (.t 10))])
 (.seq (.rg [o1 13 (.p0),
   o1 14 (.same 13),
   o1 15 (.idx (.t 14)),
   o1 16 (.load 0 [] 2 (.t 15) 1 false),
   o1 17 (.data (.bin .shr) [.t 16, .c (.int .u64 (33))]),
   o1 18 (.p0),
   o1 19 (.same 18),
   o1 20 (.idx (.t 19)),
   o1 21 (.load 0 [] 2 (.t 20) 1 false),
   o1 22 (.data (.bin .shr) [.t 21, .c (.int .u64 (45))]),
   o1 23 (.data (.bin .xor) [.t 17, .t 22]),
   o1 24 (.data (.bin .and) [.t 23, .c (.int .i64 (255))]),
   o1 3 (.copy 24)])
 (.seq (.join [⟨3, [.i .i64], false⟩, ⟨0, [.sl [.i .u8], .i .i64, .i .i64], false⟩] 144115188042301449 none (.seq (.rg [o1 25 (.p0),
   o1 26 (.same 25),
   o1 27 (.idx (.t 26)),
   o1 28 (.load 0 [] 1 (.t 27) 1 false),
   o1 29 (.p0),
   o1 30 (.same 29),
   o1 31 (.idx (.t 30)),
   o1 32 (.load 0 [] 0 (.t 31) 1 false),
   o1 33 (.len 32),
   o1 34 (.data (.bin .lss) [.t 28, .t 33])])
 (.cond (.t 34)
  (.seq (.rg [o1 35 (.copy 3),
    o1 36 (.p0),
    o1 37 (.same 36),
    o1 38 (.idx (.t 37)),
    o1 39 (.load 0 [] 0 (.t 38) 1 false),
    o1 40 (.p0),
    o1 41 (.same 40),
    o1 42 (.idx (.t 41)),
    o1 43 (.load 0 [] 1 (.t 42) 1 false),
    o1 44 (.index 39 (.t 43)),
    o1 45 (.load 39 [(0, 1)] 0 (.t 44) 1 false),
    o1 46 (.data (.conv .i64) [.t 45]),
    o1 47 (.data (.bin .add) [.t 35, .t 46]),
    o1 48 (.data (.bin .and) [.t 47, .c (.int .i64 (255))]),
    o1 3 (.copy 48)])
  (.rg [o1 49 (.p0),
    o1 50 (.p0),
    o1 51 (.same 50),
    o1 52 (.idx (.t 51)),
    o1 53 (.load 0 [] 1 (.t 52) 1 false),
    o1 54 (.data (.bin .add) [.t 53, .c (.int .i64 (1))]),
    o1 55 (.same 49),
    o1 56 (.idx (.t 55)),
    o4 1 [0] (.store 0 [] 1 (.t 56) (.t 54))]))
  .skip)))
 (.seq (.rg [o1 57 (.copy 3),
   o1 2 (.copy 57)])
 .ret)))))
def s_sl01Byte : Sig := ⟨[.mp [.sl (.ro []) [.d], .d, .d]], (.one false [.d])⟩
noncomputable def E_sl01Byte : TEnv := envOf []
noncomputable def f_sl01Byte (n : Nat) : (List (Int) × Int × Int) → Option ((Int) × List (Int) × Int × Int) := runFn n E_sl01Byte c_sl01Byte [[.sl [.i .u8], .i .i64, .i .i64]] [.i .i64] [.sl [.i .u8], .i .i64, .i .i64] [2] (.mp 0)
noncomputable def g_sl01Byte := f_sl01Byte BIG
noncomputable def p_sl01Byte : TSp := ⟨s_sl01Byte, [[.sl [.i .u8], .i .i64, .i .i64]], [.i .i64], [.sl [.i .u8], .i .i64, .i .i64], Ou.j (.mp 0), g_sl01Byte⟩
theorem k_sl01Byte : chkW PG E_sl01Byte 103 s_sl01Byte (c_sl01Byte.ht 58) (.mp 0) = some (c_sl01Byte.wc E_sl01Byte, [2]) := by kernel_rfl
theorem ok_sl01Byte : p_sl01Byte.Ok PG 103 := mkOk (env_nil PG) k_sl01Byte (by kernel_rfl)
theorem e_sl01Byte (n : Nat) (a0 : List (Int) × Int × Int) : f_sl01Byte n a0 =
  bif decide ((33 : Int) < 0) then
   none
  else bif decide ((45 : Int) < 0) then
   none
  else Option.bind (bif decide (a0.2.1 < (a0.1.length : Int)) then
    bnd a0.1.length a0.2.1 fun n0 =>
    Option.bind a0.1[n0]? fun y1 =>
    some (bits .and .i64 (IntKind.wrap .i64 ((bits .and .i64 (bits .xor .i64 (Int.fdiv (IntKind.wrap .i64 ((IntKind.wrap .i64 (a0.2.2 * (6364136223846793005 : Int))) + (1442695040888963407 : Int))) (2 ^ (Nat.min (Int.toNat (33 : Int)) (IntKind.bits .i64)))) (Int.fdiv (IntKind.wrap .i64 ((IntKind.wrap .i64 (a0.2.2 * (6364136223846793005 : Int))) + (1442695040888963407 : Int))) (2 ^ (Nat.min (Int.toNat (45 : Int)) (IntKind.bits .i64))))) (255 : Int)) + (IntKind.wrap .i64 (y1)))) (255 : Int), (a0.1, IntKind.wrap .i64 (a0.2.1 + (1 : Int)), IntKind.wrap .i64 ((IntKind.wrap .i64 (a0.2.2 * (6364136223846793005 : Int))) + (1442695040888963407 : Int))))
   else some (bits .and .i64 (bits .xor .i64 (Int.fdiv (IntKind.wrap .i64 ((IntKind.wrap .i64 (a0.2.2 * (6364136223846793005 : Int))) + (1442695040888963407 : Int))) (2 ^ (Nat.min (Int.toNat (33 : Int)) (IntKind.bits .i64)))) (Int.fdiv (IntKind.wrap .i64 ((IntKind.wrap .i64 (a0.2.2 * (6364136223846793005 : Int))) + (1442695040888963407 : Int))) (2 ^ (Nat.min (Int.toNat (45 : Int)) (IntKind.bits .i64))))) (255 : Int), (a0.1, a0.2.1, IntKind.wrap .i64 ((IntKind.wrap .i64 (a0.2.2 * (6364136223846793005 : Int))) + (1442695040888963407 : Int)))) : Option (Int × (List (Int) × Int × Int))) fun x2 =>
  some (x2.1, x2.2) := by kernel_rfl
/- spec.l01Below -/
def c_sl01Below : TC :=
 (.seq (.rg [o1 4 (.lit [.i .i64] [.int .i64 (0)])])
 (.seq (.seq (.rg [o1 9 (.copy 1),
   o1 10 (.data (.bin .leq) [.t 9, .c (.int .i64 (0))])])
 (.cond (.t 10)
  (.seq (.rg [o1 4 (.lit [.i .i64] [.int .i64 (0)])])
  .ret)
  .skip))
 (.seq (.seq (.rg [o1 11 (.copy 1),
   o1 12 (.data (.bin .leq) [.t 11, .c (.int .i64 (256))])])
 (.cond (.t 12)
  (.seq (.rg [o1 13 (.p0),
    ⟨false, [], [], .call 2 103 [.t 0] (.mp 0), [14, 0], (some 14), none⟩,
    o1 15 (.copy 1),
    o1 16 (.data (.bin .rem) [.t 14, .t 15]),
    o1 4 (.copy 16)])
  .ret)
  .skip))
 (.seq (.rg [o1 17 (.p0),
   ⟨false, [], [], .call 2 103 [.t 0] (.mp 0), [18, 0], (some 18), none⟩,
   o1 5 (.copy 18)])
 (.seq (.rg [o1 19 (.p0),
   ⟨false, [], [], .call 2 103 [.t 0] (.mp 0), [20, 0], (some 20), none⟩,
   o1 6 (.copy 20)])
 (.seq (.rg [o1 21 (.p0),
   ⟨false, [], [], .call 2 103 [.t 0] (.mp 0), [22, 0], (some 22), none⟩,
   o1 7 (.copy 22)])
 (.seq (.rg [o1 23 (.p0),
   ⟨false, [], [], .call 2 103 [.t 0] (.mp 0), [24, 0], (some 24), none⟩,
   o1 8 (.copy 24)])
 (.seq (.rg [o1 25 (.copy 5),
   o1 26 (.data (.bin .mul) [.t 25, .c (.int .i64 (16777216))]),
   o1 27 (.copy 6),
   o1 28 (.data (.bin .mul) [.t 27, .c (.int .i64 (65536))]),
   o1 29 (.data (.bin .add) [.t 26, .t 28]),
   o1 30 (.copy 7),
   o1 31 (.data (.bin .mul) [.t 30, .c (.int .i64 (256))]),
   o1 32 (.data (.bin .add) [.t 29, .t 31]),
   o1 33 (.copy 8),
   o1 34 (.data (.bin .add) [.t 32, .t 33]),
   o1 35 (.copy 1),
   o1 36 (.data (.bin .rem) [.t 34, .t 35]),
   o1 4 (.copy 36)])
 .ret))))))))
def s_sl01Below : Sig := ⟨[.mp [.sl (.ro []) [.d], .d, .d], .rd false [.d]], (.one false [.d])⟩
noncomputable def E_sl01Below : TEnv := envOf [(103, p_sl01Byte)]
noncomputable def f_sl01Below (n : Nat) : (List (Int) × Int × Int) × Int → Option ((Int) × List (Int) × Int × Int) := runFn n E_sl01Below c_sl01Below [[.sl [.i .u8], .i .i64, .i .i64], [.i .i64]] [.i .i64] [.sl [.i .u8], .i .i64, .i .i64] [4] (.mp 0)
noncomputable def g_sl01Below := f_sl01Below BIG
noncomputable def p_sl01Below : TSp := ⟨s_sl01Below, [[.sl [.i .u8], .i .i64, .i .i64], [.i .i64]], [.i .i64], [.sl [.i .u8], .i .i64, .i .i64], Ou.j (.mp 0), g_sl01Below⟩
theorem k_sl01Below : chkW PG E_sl01Below 92 s_sl01Below (c_sl01Below.ht 37) (.mp 0) = some (c_sl01Below.wc E_sl01Below, [4]) := by kernel_rfl
theorem ok_sl01Below : p_sl01Below.Ok PG 92 := mkOk (env_cons ok_sl01Byte (env_nil PG)) k_sl01Below (by kernel_rfl)
theorem e_sl01Below (n : Nat) (a0 : List (Int) × Int × Int) (a1 : Int) : f_sl01Below n (a0, a1) =
  bif decide (a1 ≤ (0 : Int)) then
   some ((0 : Int), a0)
  else bif decide (a1 ≤ (256 : Int)) then
   Option.bind (g_sl01Byte a0) fun r0 =>
   bif decide (a1 = 0) then
    none
   else some (Int.tmod r0.1 a1, r0.2)
  else Option.bind (g_sl01Byte a0) fun r1 =>
  Option.bind (g_sl01Byte r1.2) fun r2 =>
  Option.bind (g_sl01Byte r2.2) fun r3 =>
  Option.bind (g_sl01Byte r3.2) fun r4 =>
  bif decide (a1 = 0) then
   none
  else some (Int.tmod (IntKind.wrap .i64 ((IntKind.wrap .i64 ((IntKind.wrap .i64 ((IntKind.wrap .i64 (r1.1 * (16777216 : Int))) + (IntKind.wrap .i64 (r2.1 * (65536 : Int))))) + (IntKind.wrap .i64 (r3.1 * (256 : Int))))) + r4.1)) a1, r4.2) := by kernel_rfl
/- spec.l01Once -/
def c_sl01Once : TC :=
 (.seq (.rg [o1 4 (.lit [.b] [.bool false])])
 (.seq (.rg [o1 5 (.p0),
   o1 6 (.copy 1),
   ⟨false, [], [], .call 2 92 [.t 0, .t 6] (.mp 0), [7, 0], (some 7), none⟩,
   o1 8 (.data (.bin .eql) [.t 7, .c (.int .i64 (0))]),
   o1 4 (.copy 8)])
 .ret))
def s_sl01Once : Sig := ⟨[.mp [.sl (.ro []) [.d], .d, .d], .rd false [.d]], (.one false [.d])⟩
noncomputable def E_sl01Once : TEnv := envOf [(92, p_sl01Below)]
noncomputable def f_sl01Once (n : Nat) : (List (Int) × Int × Int) × Int → Option ((Bool) × List (Int) × Int × Int) := runFn n E_sl01Once c_sl01Once [[.sl [.i .u8], .i .i64, .i .i64], [.i .i64]] [.b] [.sl [.i .u8], .i .i64, .i .i64] [4] (.mp 0)
noncomputable def g_sl01Once := f_sl01Once BIG
noncomputable def p_sl01Once : TSp := ⟨s_sl01Once, [[.sl [.i .u8], .i .i64, .i .i64], [.i .i64]], [.b], [.sl [.i .u8], .i .i64, .i .i64], Ou.j (.mp 0), g_sl01Once⟩
theorem k_sl01Once : chkW PG E_sl01Once 94 s_sl01Once (c_sl01Once.ht 9) (.mp 0) = some (c_sl01Once.wc E_sl01Once, [4]) := by kernel_rfl
theorem ok_sl01Once : p_sl01Once.Ok PG 94 := mkOk (env_cons ok_sl01Below (env_nil PG)) k_sl01Once (by kernel_rfl)
theorem e_sl01Once (n : Nat) (a0 : List (Int) × Int × Int) (a1 : Int) : f_sl01Once n (a0, a1) =
  Option.bind (g_sl01Below (a0, a1)) fun r0 =>
  some (decide (r0.1 = (0 : Int)), r0.2) := by kernel_rfl
/- spec.l05Less -/
def c_sl05Less : TC :=
 (.seq (.rg [o1 2 (.a (.t 0)),
   o1 3 (.a (.t 1)),
   o1 4 (.lit [.b] [.bool false])])
 (.seq (.join [⟨4, [.b], false⟩] 16777200 none (.rg [o1 5 (.idx .nil),
   o1 6 (.load 2 [] 0 (.t 5) 1 false),
   o1 7 (.idx .nil),
   o1 8 (.load 3 [] 0 (.t 7) 1 false),
   o1 9 (.data (.bin .lss) [.t 6, .t 8]),
   o1 10 (.copy 9),
   o2 11 (.idx .nil) 5 false,
   o2 12 (.load 2 [] 0 (.t 11) 1 false) 5 false,
   o2 13 (.idx .nil) 5 false,
   o2 14 (.load 3 [] 0 (.t 13) 1 false) 5 false,
   o2 15 (.data (.bin .eql) [.t 12, .t 14]) 5 false,
   o2 16 (.copy 15) 5 false,
   o2 17 (.idx .nil) 11 true,
   o2 18 (.load 2 [] 1 (.t 17) 1 false) 11 true,
   o2 19 (.idx .nil) 11 true,
   o2 20 (.load 3 [] 1 (.t 19) 1 false) 11 true,
   o2 21 (.data (.bin .lss) [.t 18, .t 20]) 11 true,
   ⟨false, [], [], .pick 16 (.t 21) (.c (.bool false)), [22], (some 22), some (5, false)⟩,
   ⟨false, [], [], .pick 10 (.c (.bool true)) (.t 22), [23], (some 23), none⟩,
   o1 4 (.copy 23)]))
 .ret))
def s_sl05Less : Sig := ⟨[.rd true [.d, .d], .rd true [.d, .d]], (.one false [.d])⟩
noncomputable def E_sl05Less : TEnv := envOf []
noncomputable def f_sl05Less (n : Nat) : (Int × Int) × (Int × Int) → Option ((Bool) × Unit) := runFn n E_sl05Less c_sl05Less [[.i .i64, .i .i64], [.i .i64, .i .i64]] [.b] [] [4] .no
noncomputable def g_sl05Less := f_sl05Less BIG
noncomputable def p_sl05Less : TSp := ⟨s_sl05Less, [[.i .i64, .i .i64], [.i .i64, .i .i64]], [.b], [], Ou.j .no, g_sl05Less⟩
theorem k_sl05Less : chkW PG E_sl05Less 305 s_sl05Less (c_sl05Less.ht 24) .no = some (c_sl05Less.wc E_sl05Less, [4]) := by kernel_rfl
theorem ok_sl05Less : p_sl05Less.Ok PG 305 := mkOk (env_nil PG) k_sl05Less (by kernel_rfl)
theorem e_sl05Less (n : Nat) (a0 : Int × Int) (a1 : Int × Int) : f_sl05Less n (a0, a1) =
  Option.bind (bif decide (a0.1 < a1.1) then
    some true
   else bif decide (a0.1 = a1.1) then
    some (decide (a0.2 < a1.2))
   else some false : Option (Bool)) fun x0 =>
  some (x0, ()) := by kernel_rfl
/- spec.l05Put -/
def c_sl05Put : TC :=
 (.seq (.rg [o1 3 (.a (.t 1)),
   o1 4 (.lit [.sl [.i .i64, .i .i64]] [.slice none 0 0])])
 (.seq (.rg [o1 8 (.sli [.i .i64, .i .i64] []),
   ⟨false, [], [], .det 2 (.copy 8), [5, 8], (some 5), none⟩])
 (.seq (.join [⟨5, [.sl [.i .i64, .i .i64]], false⟩] 268435040 none (.seq (.rg [o1 6 (.lit [.i .i64] [.int .i64 (0)])])
 (.block 0 (.loop [⟨5, [.sl [.i .i64, .i .i64]], false⟩, ⟨6, [.i .i64], false⟩] 268435040
  (.seq (.seq (.rg [o1 9 (.copy 6),
    o1 10 (.copy 0),
    o1 11 (.len 10),
    o1 12 (.data (.bin .lss) [.t 9, .t 11])])
  (.cond (.t 12)
   .skip
   (.exit 0)))
  (.seq (.join [⟨5, [.sl [.i .i64, .i .i64]], false⟩] 268402720 none (.block 1 (.seq (.rg [o1 15 (.copy 0),
    o1 16 (.copy 6),
    o1 17 (.index 15 (.t 16)),
    o1 18 (.load 15 [(0, 2)] 0 (.t 17) 2 false),
    o1 19 (.load 3 [] 0 .nil 2 false),
    o3 20 305 [.t 18, .t 19]])
  (.cond (.t 20)
   (.rg [⟨false, [], [], .det 2 (.copy 5), [21, 5], (some 21), none⟩,
     o1 22 (.copy 0),
     o1 23 (.copy 6),
     o1 24 (.index 22 (.t 23)),
     o1 25 (.load 22 [(0, 2)] 0 (.t 24) 2 false),
     o1 26 (.sli [.i .i64, .i .i64] [.t 25]),
     ⟨false, [], [], .det 2 (.app (some 21) 26), [27, 21], (some 27), none⟩,
     ⟨false, [], [], .det 2 (.copy 27), [5, 27], (some 5), none⟩])
   .skip))))
  (.rg [o1 13 (.copy 6),
    o1 14 (.data (.bin .add) [.t 13, .c (.int .i64 (1))]),
    o1 6 (.copy 14)])))))))
 (.seq (.rg [⟨false, [], [], .det 2 (.copy 5), [28, 5], (some 28), none⟩,
   o1 29 (.load 3 [] 0 .nil 2 false),
   o1 30 (.sli [.i .i64, .i .i64] [.t 29]),
   ⟨false, [], [], .det 2 (.app (some 28) 30), [31, 28], (some 31), none⟩,
   ⟨false, [], [], .det 2 (.copy 31), [5, 31], (some 5), none⟩])
 (.seq (.join [⟨5, [.sl [.i .i64, .i .i64]], false⟩] 2251795518718112 none (.seq (.rg [o1 7 (.lit [.i .i64] [.int .i64 (0)])])
 (.block 2 (.loop [⟨5, [.sl [.i .i64, .i .i64]], false⟩, ⟨7, [.i .i64], false⟩] 2251795518718112
  (.seq (.seq (.rg [o1 32 (.copy 7),
    o1 33 (.copy 0),
    o1 34 (.len 33),
    o1 35 (.data (.bin .lss) [.t 32, .t 34])])
  (.cond (.t 35)
   .skip
   (.exit 2)))
  (.seq (.join [⟨5, [.sl [.i .i64, .i .i64]], false⟩] 2251524935778336 none (.block 3 (.seq (.rg [o1 38 (.load 3 [] 0 .nil 2 false),
    o1 39 (.copy 0),
    o1 40 (.copy 7),
    o1 41 (.index 39 (.t 40)),
    o1 42 (.load 39 [(0, 2)] 0 (.t 41) 2 false),
    o3 43 305 [.t 38, .t 42]])
  (.cond (.t 43)
   (.rg [⟨false, [], [], .det 2 (.copy 5), [44, 5], (some 44), none⟩,
     o1 45 (.copy 0),
     o1 46 (.copy 7),
     o1 47 (.index 45 (.t 46)),
     o1 48 (.load 45 [(0, 2)] 0 (.t 47) 2 false),
     o1 49 (.sli [.i .i64, .i .i64] [.t 48]),
     ⟨false, [], [], .det 2 (.app (some 44) 49), [50, 44], (some 50), none⟩,
     ⟨false, [], [], .det 2 (.copy 50), [5, 50], (some 5), none⟩])
   .skip))))
  (.rg [o1 36 (.copy 7),
    o1 37 (.data (.bin .add) [.t 36, .c (.int .i64 (1))]),
    o1 7 (.copy 37)])))))))
 (.seq (.rg [⟨false, [], [], .det 2 (.copy 5), [51, 5], (some 51), none⟩,
   ⟨false, [], [], .det 2 (.copy 51), [4, 51], (some 4), none⟩])
 .ret))))))
def s_sl05Put : Sig := ⟨[.rd false [.sl (.own none) [.d, .d]], .rd true [.d, .d]], (.one false [.sl (.own none) [.d, .d]])⟩
noncomputable def E_sl05Put : TEnv := envOf [(305, p_sl05Less)]
noncomputable def f_sl05Put (n : Nat) : (List (Int × Int)) × (Int × Int) → Option ((List (Int × Int)) × Unit) := runFn n E_sl05Put c_sl05Put [[.sl [.i .i64, .i .i64]], [.i .i64, .i .i64]] [.sl [.i .i64, .i .i64]] [] [4] .no
noncomputable def g_sl05Put := f_sl05Put BIG
noncomputable def p_sl05Put : TSp := ⟨s_sl05Put, [[.sl [.i .i64, .i .i64]], [.i .i64, .i .i64]], [.sl [.i .i64, .i .i64]], [], Ou.j .no, g_sl05Put⟩
theorem k_sl05Put : chkW PG E_sl05Put 231 s_sl05Put (c_sl05Put.ht 52) .no = some (c_sl05Put.wc E_sl05Put, [4]) := by kernel_rfl
theorem ok_sl05Put : p_sl05Put.Ok PG 231 := mkOk (env_cons ok_sl05Less (env_nil PG)) k_sl05Put (by kernel_rfl)
theorem e_sl05Put (n : Nat) (a0 : List (Int × Int)) (a1 : Int × Int) : f_sl05Put n (a0, a1) =
  Option.bind (loopT n (X := (List (Int × Int)) × Int) (B := (List (Int × Int))) (fun self1 x0 =>
    bif decide (x0.2 < (a0.length : Int)) then
     Option.bind (bnd a0.length x0.2 fun n2 =>
      Option.bind a0[n2]? fun y3 =>
      Option.bind (g_sl05Less (y3, a1)) fun r4 =>
      bif r4.1 then
       bnd a0.length x0.2 fun n5 =>
       Option.bind a0[n5]? fun y6 =>
       bif decide (x0.1.length + [y6].length ≤ 4294967296) then
        some (x0.1 ++ [y6])
       else none
      else some x0.1 : Option ((List (Int × Int)))) fun x7 =>
     self1 (x7, IntKind.wrap .i64 (x0.2 + (1 : Int)))
    else some x0.1) ([], (0 : Int)) : Option ((List (Int × Int)))) fun x8 =>
  bif decide (x8.length + [a1].length ≤ 4294967296) then
   Option.bind (loopT n (X := (List (Int × Int)) × Int) (B := (List (Int × Int))) (fun self10 x9 =>
     bif decide (x9.2 < (a0.length : Int)) then
      Option.bind (bnd a0.length x9.2 fun n11 =>
       Option.bind a0[n11]? fun y12 =>
       Option.bind (g_sl05Less (a1, y12)) fun r13 =>
       bif r13.1 then
        bnd a0.length x9.2 fun n14 =>
        Option.bind a0[n14]? fun y15 =>
        bif decide (x9.1.length + [y15].length ≤ 4294967296) then
         some (x9.1 ++ [y15])
        else none
       else some x9.1 : Option ((List (Int × Int)))) fun x16 =>
      self10 (x16, IntKind.wrap .i64 (x9.2 + (1 : Int)))
     else some x9.1) (x8 ++ [a1], (0 : Int)) : Option ((List (Int × Int)))) fun x17 =>
   some (x17, ())
  else none := by kernel_rfl
/- spec.l06Tree -/
def c_sl06Tree : TC :=
 (.seq (.rg [o1 4 (.lit [.sl [.i .i64, .i .i64]] [.slice none 0 0])])
 (.seq (.rg [o1 7 (.sli [.i .i64, .i .i64] []),
   ⟨false, [], [], .det 2 (.copy 7), [5, 7], (some 5), none⟩])
 (.seq (.join [⟨0, [.sl [.i .u8], .i .i64, .i .i64], false⟩, ⟨5, [.sl [.i .i64, .i .i64]], false⟩] 8388449 none (.seq (.rg [o1 6 (.lit [.i .i64] [.int .i64 (1)])])
 (.block 0 (.loop [⟨0, [.sl [.i .u8], .i .i64, .i .i64], false⟩, ⟨5, [.sl [.i .i64, .i .i64]], false⟩, ⟨6, [.i .i64], false⟩] 8388449
  (.seq (.seq (.rg [o1 8 (.copy 6),
    o1 9 (.copy 1),
    o1 10 (.data (.bin .lss) [.t 8, .t 9])])
  (.cond (.t 10)
   .skip
   (.exit 0)))
  (.seq (.join [⟨0, [.sl [.i .u8], .i .i64, .i .i64], false⟩, ⟨5, [.sl [.i .i64, .i .i64]], false⟩] 8380449 none (.block 1 (.seq (.rg [o1 13 (.p0),
    ⟨false, [], [], .call 2 94 [.t 0, .c [.i .i64] [.int .i64 (6)]] (.mp 0), [14, 0], (some 14), none⟩,
    o1 15 (.data .not [.t 14])])
  (.cond (.t 15)
   (.rg [⟨false, [], [], .det 2 (.copy 5), [16, 5], (some 16), none⟩,
     o1 17 (.p0),
     o1 18 (.copy 6),
     ⟨false, [], [], .call 2 92 [.t 0, .t 18] (.mp 0), [19, 0], (some 19), none⟩,
     o1 20 (.copy 6),
     o1 21 (.build [.i .i64, .i .i64] [(0, .t 19), (1, .t 20)]),
     o3 22 231 [.t 16, .t 21],
     ⟨false, [], [], .det 2 (.copy 22), [5, 22], (some 5), none⟩])
   .skip))))
  (.rg [o1 11 (.copy 6),
    o1 12 (.data (.bin .add) [.t 11, .c (.int .i64 (1))]),
    o1 6 (.copy 12)])))))))
 (.seq (.rg [⟨false, [], [], .det 2 (.copy 5), [23, 5], (some 23), none⟩,
   ⟨false, [], [], .det 2 (.copy 23), [4, 23], (some 4), none⟩])
 .ret))))
def s_sl06Tree : Sig := ⟨[.mp [.sl (.ro []) [.d], .d, .d], .rd false [.d]], (.one false [.sl (.own none) [.d, .d]])⟩
noncomputable def E_sl06Tree : TEnv := envOf [(94, p_sl01Once), (92, p_sl01Below), (231, p_sl05Put)]
noncomputable def f_sl06Tree (n : Nat) : (List (Int) × Int × Int) × Int → Option ((List (Int × Int)) × List (Int) × Int × Int) := runFn n E_sl06Tree c_sl06Tree [[.sl [.i .u8], .i .i64, .i .i64], [.i .i64]] [.sl [.i .i64, .i .i64]] [.sl [.i .u8], .i .i64, .i .i64] [4] (.mp 0)
noncomputable def g_sl06Tree := f_sl06Tree BIG
noncomputable def p_sl06Tree : TSp := ⟨s_sl06Tree, [[.sl [.i .u8], .i .i64, .i .i64], [.i .i64]], [.sl [.i .i64, .i .i64]], [.sl [.i .u8], .i .i64, .i .i64], Ou.j (.mp 0), g_sl06Tree⟩
theorem k_sl06Tree : chkW PG E_sl06Tree 230 s_sl06Tree (c_sl06Tree.ht 24) (.mp 0) = some (c_sl06Tree.wc E_sl06Tree, [4]) := by kernel_rfl
theorem ok_sl06Tree : p_sl06Tree.Ok PG 230 := mkOk (env_cons ok_sl01Once (env_cons ok_sl01Below (env_cons ok_sl05Put (env_nil PG)))) k_sl06Tree (by kernel_rfl)
theorem e_sl06Tree (n : Nat) (a0 : List (Int) × Int × Int) (a1 : Int) : f_sl06Tree n (a0, a1) =
  Option.bind (loopT n (X := (List (Int) × Int × Int) × (List (Int × Int)) × Int) (B := (List (Int) × Int × Int) × (List (Int × Int))) (fun self1 x0 =>
    bif decide (x0.2.2 < a1) then
     Option.bind (Option.bind (g_sl01Once (x0.1, (6 : Int))) fun r2 =>
      bif !r2.1 then
       Option.bind (g_sl01Below (r2.2, x0.2.2)) fun r3 =>
       Option.bind (g_sl05Put (x0.2.1, (r3.1, x0.2.2))) fun r4 =>
       some (r3.2, r4.1)
      else some (r2.2, x0.2.1) : Option ((List (Int) × Int × Int) × (List (Int × Int)))) fun x5 =>
     self1 (x5.1, x5.2, IntKind.wrap .i64 (x0.2.2 + (1 : Int)))
    else some (x0.1, x0.2.1)) (a0, [], (1 : Int)) : Option ((List (Int) × Int × Int) × (List (Int × Int)))) fun x6 =>
  some (x6.2, x6.1) := by kernel_rfl
/- spec.l01In -/
def c_sl01In : TC :=
 (.seq (.rg [o1 6 (.lit [.b] [.bool false])])
 (.seq (.join [⟨6, [.b], false⟩] 32704 none (.rg [o1 7 (.copy 0),
   o1 8 (.copy 1),
   o1 9 (.data (.bin .geq) [.t 7, .t 8]),
   o1 10 (.copy 9),
   o2 11 (.copy 0) 3 true,
   o2 12 (.copy 2) 3 true,
   o2 13 (.data (.bin .leq) [.t 11, .t 12]) 3 true,
   ⟨false, [], [], .pick 10 (.t 13) (.c (.bool false)), [14], (some 14), none⟩,
   o1 6 (.copy 14)]))
 .ret))
def s_sl01In : Sig := ⟨[.rd false [.d], .rd false [.d], .rd false [.d]], (.one false [.d])⟩
noncomputable def E_sl01In : TEnv := envOf []
noncomputable def f_sl01In (n : Nat) : Int × Int × Int → Option ((Bool) × Unit) := runFn n E_sl01In c_sl01In [[.i .i64], [.i .i64], [.i .i64]] [.b] [] [6] .no
noncomputable def g_sl01In := f_sl01In BIG
noncomputable def p_sl01In : TSp := ⟨s_sl01In, [[.i .i64], [.i .i64], [.i .i64]], [.b], [], Ou.j .no, g_sl01In⟩
theorem k_sl01In : chkW PG E_sl01In 98 s_sl01In (c_sl01In.ht 15) .no = some (c_sl01In.wc E_sl01In, [6]) := by kernel_rfl
theorem ok_sl01In : p_sl01In.Ok PG 98 := mkOk (env_nil PG) k_sl01In (by kernel_rfl)
theorem e_sl01In (n : Nat) (a0 : Int) (a1 : Int) (a2 : Int) : f_sl01In n (a0, a1, a2) =
  Option.bind (bif decide (a1 ≤ a0) then
    some (decide (a0 ≤ a2))
   else some false : Option (Bool)) fun x0 =>
  some (x0, ()) := by kernel_rfl
/- spec.EdgeOk -/
def c_sEdgeOk : TC :=
 (.seq (.rg [o1 3 (.a (.t 1)),
   o1 4 (.lit [.b] [.bool false])])
 (.seq (.join [⟨4, [.b], false⟩] 268435440 none (.rg [o1 5 (.copy 0),
   o3 6 98 [.t 5, .c [.i .i64] [.int .i64 (1)], .c [.i .i64] [.int .i64 (12)]],
   o1 7 (.copy 6),
   o2 8 (.idx .nil) 2 true,
   o2 9 (.load 3 [] 0 (.t 8) 1 false) 2 true,
   o2 10 (.copy 0) 2 true,
   o2 11 (.data (.bin .sub) [.t 10, .c (.int .i64 (1))]) 2 true,
   ⟨false, [], [], .call 1 98 [.t 9, .c [.i .i64] [.int .i64 (0)], .t 11] .no, [12], (some 12), some (2, true)⟩,
   ⟨false, [], [], .pick 7 (.t 12) (.c (.bool false)), [13], (some 13), none⟩,
   o1 14 (.copy 13),
   o2 15 (.idx .nil) 9 true,
   o2 16 (.load 3 [] 1 (.t 15) 1 false) 9 true,
   o2 17 (.copy 0) 9 true,
   o2 18 (.data (.bin .sub) [.t 17, .c (.int .i64 (1))]) 9 true,
   ⟨false, [], [], .call 1 98 [.t 16, .c [.i .i64] [.int .i64 (0)], .t 18] .no, [19], (some 19), some (9, true)⟩,
   ⟨false, [], [], .pick 14 (.t 19) (.c (.bool false)), [20], (some 20), none⟩,
   o1 21 (.copy 20),
   o2 22 (.idx .nil) 16 true,
   o2 23 (.load 3 [] 0 (.t 22) 1 false) 16 true,
   o2 24 (.idx .nil) 16 true,
   o2 25 (.load 3 [] 1 (.t 24) 1 false) 16 true,
   o2 26 (.data (.bin .lss) [.t 23, .t 25]) 16 true,
   ⟨false, [], [], .pick 21 (.t 26) (.c (.bool false)), [27], (some 27), none⟩,
   o1 4 (.copy 27)]))
 .ret))
def s_sEdgeOk : Sig := ⟨[.rd false [.d], .rd true [.d, .d]], (.one false [.d])⟩
noncomputable def E_sEdgeOk : TEnv := envOf [(98, p_sl01In)]
noncomputable def f_sEdgeOk (n : Nat) : Int × (Int × Int) → Option ((Bool) × Unit) := runFn n E_sEdgeOk c_sEdgeOk [[.i .i64], [.i .i64, .i .i64]] [.b] [] [4] .no
noncomputable def g_sEdgeOk := f_sEdgeOk BIG
noncomputable def p_sEdgeOk : TSp := ⟨s_sEdgeOk, [[.i .i64], [.i .i64, .i .i64]], [.b], [], Ou.j .no, g_sEdgeOk⟩
theorem k_sEdgeOk : chkW PG E_sEdgeOk 116 s_sEdgeOk (c_sEdgeOk.ht 28) .no = some (c_sEdgeOk.wc E_sEdgeOk, [4]) := by kernel_rfl
theorem ok_sEdgeOk : p_sEdgeOk.Ok PG 116 := mkOk (env_cons ok_sl01In (env_nil PG)) k_sEdgeOk (by kernel_rfl)
theorem e_sEdgeOk (n : Nat) (a0 : Int) (a1 : Int × Int) : f_sEdgeOk n (a0, a1) =
  Option.bind (Option.bind (g_sl01In (a0, (1 : Int), (12 : Int))) fun r0 =>
   bif r0.1 then
    Option.bind (g_sl01In (a1.1, (0 : Int), IntKind.wrap .i64 (a0 - (1 : Int)))) fun r1 =>
    bif r1.1 then
     Option.bind (g_sl01In (a1.2, (0 : Int), IntKind.wrap .i64 (a0 - (1 : Int)))) fun r2 =>
     bif r2.1 then
      some (decide (a1.1 < a1.2))
     else some false
    else some false
   else some false : Option (Bool)) fun x3 =>
  some (x3, ()) := by kernel_rfl
/- spec.l05Has -/
def c_sl05Has : TC :=
 (.seq (.rg [o1 3 (.a (.t 1)),
   o1 4 (.lit [.b] [.bool false])])
 (.seq (.join [] 262128 (some [⟨4, [.b], false⟩]) (.seq (.rg [o1 5 (.lit [.i .i64] [.int .i64 (0)])])
 (.block 0 (.loop [⟨5, [.i .i64], false⟩] 262128
  (.seq (.seq (.rg [o1 6 (.copy 5),
    o1 7 (.copy 0),
    o1 8 (.len 7),
    o1 9 (.data (.bin .lss) [.t 6, .t 8])])
  (.cond (.t 9)
   .skip
   (.exit 0)))
  (.seq (.block 1 (.seq (.rg [o1 12 (.copy 0),
    o1 13 (.copy 5),
    o1 14 (.index 12 (.t 13)),
    o1 15 (.load 12 [(0, 2)] 0 (.t 14) 2 false),
    o1 16 (.load 3 [] 0 .nil 2 false),
    o1 17 (.eqA [.i, .i] (.t 15) (.t 16) false)])
  (.cond (.t 17)
   (.seq (.rg [o1 4 (.lit [.b] [.bool true])])
   .ret)
   .skip)))
  (.rg [o1 10 (.copy 5),
    o1 11 (.data (.bin .add) [.t 10, .c (.int .i64 (1))]),
    o1 5 (.copy 11)])))))))
 (.seq (.rg [o1 4 (.lit [.b] [.bool false])])
 .ret)))
def s_sl05Has : Sig := ⟨[.rd false [.sl (.own none) [.d, .d]], .rd true [.d, .d]], (.one false [.d])⟩
noncomputable def E_sl05Has : TEnv := envOf []
noncomputable def f_sl05Has (n : Nat) : (List (Int × Int)) × (Int × Int) → Option ((Bool) × Unit) := runFn n E_sl05Has c_sl05Has [[.sl [.i .i64, .i .i64]], [.i .i64, .i .i64]] [.b] [] [4] .no
noncomputable def g_sl05Has := f_sl05Has BIG
noncomputable def p_sl05Has : TSp := ⟨s_sl05Has, [[.sl [.i .i64, .i .i64]], [.i .i64, .i .i64]], [.b], [], Ou.j .no, g_sl05Has⟩
theorem k_sl05Has : chkW PG E_sl05Has 112 s_sl05Has (c_sl05Has.ht 18) .no = some (c_sl05Has.wc E_sl05Has, [4]) := by kernel_rfl
theorem ok_sl05Has : p_sl05Has.Ok PG 112 := mkOk (env_nil PG) k_sl05Has (by kernel_rfl)
theorem e_sl05Has (n : Nat) (a0 : List (Int × Int)) (a1 : Int × Int) : f_sl05Has n (a0, a1) =
  Option.bind (loopT n (X := Int) (B := (Unit) ⊕ (Bool)) (fun self1 x0 =>
    bif decide (x0 < (a0.length : Int)) then
     bnd a0.length x0 fun n2 =>
     Option.bind a0[n2]? fun y3 =>
     bif (decide (y3.1 = a1.1) && (decide (y3.2 = a1.2) && true)) then
      some (Sum.inr true)
     else self1 (IntKind.wrap .i64 (x0 + (1 : Int)))
    else some (Sum.inl ())) (0 : Int) : Option ((Unit) ⊕ (Bool))) fun y => match y with
  | .inl x4 =>
   some (false, ())
  | .inr x4 =>
   some (x4, ()) := by kernel_rfl
/- spec.l06Walk -/
def c_sl06Walk : TC :=
 (.seq (.rg [o1 10 (.lit [.sl [.i .i64]] [.slice none 0 0]),
   o1 11 (.lit [.b] [.bool false])])
 (.seq (.rg [o1 17 (.copy 2),
   o1 18 (.sli [.i .i64] [.t 17]),
   ⟨false, [], [], .det 2 (.copy 18), [12, 18], (some 12), none⟩])
 (.seq (.rg [⟨true, [], [], .det 1 (.copy 4), [19], (some 19), none⟩,
   o1 20 (.copy 2),
   o1 21 (.index 19 (.t 20)),
   o4 1 [4, 19] (.store 4 [(0, 1)] 0 (.t 21) (.c [.b] [.bool true]))])
 (.seq (.join [⟨12, [.sl [.i .i64]], false⟩, ⟨4, [.sl [.b]], false⟩] 147573952589672348688 (some [⟨10, [.sl [.i .i64]], false⟩, ⟨11, [.b], false⟩, ⟨4, [.sl [.b]], false⟩]) (.seq (.rg [o1 13 (.lit [.i .i64] [.int .i64 (0)])])
 (.block 0 (.loop [⟨12, [.sl [.i .i64]], false⟩, ⟨4, [.sl [.b]], false⟩, ⟨13, [.i .i64], false⟩] 147573952589674445840
  (.seq (.seq (.rg [o1 22 (.copy 13),
    o1 23 (.copy 0),
    o1 24 (.data (.bin .lss) [.t 22, .t 23])])
  (.cond (.t 24)
   .skip
   (.exit 0)))
  (.seq (.join [⟨12, [.sl [.i .i64]], false⟩, ⟨4, [.sl [.b]], false⟩] 147573952589542317072 (some [⟨10, [.sl [.i .i64]], false⟩, ⟨11, [.b], false⟩, ⟨4, [.sl [.b]], false⟩]) (.block 1 (.seq (.rg [o1 27 (.copy 13),
    o1 28 (.copy 2),
    o1 29 (.build [.i .i64, .i .i64] [(0, .t 27), (1, .t 28)]),
    ⟨false, [], [], .det 2 (.a (.c [.i .i64, .i .i64] [.int .i64 (0), .int .i64 (0)])), [14, 1000000001], (some 14), none⟩,
    o4 1 [14] (.store 14 [] 0 .nil (.t 29))])
  (.seq (.join [⟨14, [.i .i64, .i .i64], false⟩] 67645751296 none (.seq (.rg [o1 30 (.copy 2),
    o1 31 (.copy 13),
    o1 32 (.data (.bin .lss) [.t 30, .t 31])])
  (.cond (.t 32)
   (.rg [o1 33 (.copy 2),
     o1 34 (.copy 13),
     o1 35 (.build [.i .i64, .i .i64] [(0, .t 33), (1, .t 34)]),
     o4 1 [14] (.store 14 [] 0 .nil (.t 35))])
   .skip)))
  (.seq (.seq (.join [⟨44, [.b], false⟩] 35115652612096 none (.rg [o1 36 (.copy 13),
    o1 37 (.copy 3),
    o1 38 (.data (.bin .eql) [.t 36, .t 37]),
    o1 39 (.copy 38),
    o2 40 (.copy 1) 3 false,
    o2 41 (.load 14 [] 0 .nil 2 false) 3 false,
    ⟨false, [], [], .call 1 112 [.t 40, .t 41] .no, [42], (some 42), some (3, false)⟩,
    o2 43 (.data .not [.t 42]) 3 false,
    ⟨false, [], [], .pick 39 (.c (.bool true)) (.t 43), [44], (some 44), none⟩]))
  (.cond (.t 44)
   (.exit 1)
   .skip))
  (.seq (.seq (.rg [⟨true, [], [], .det 1 (.copy 4), [45], (some 45), none⟩,
    o1 46 (.copy 13),
    o1 47 (.index 45 (.t 46)),
    o1 48 (.load 4 [(0, 1)] 0 (.t 47) 1 false)])
  (.cond (.t 48)
   (.seq (.rg [⟨false, [], [], .det 2 (.copy 12), [49, 12], (some 49), none⟩,
     ⟨false, [], [], .det 2 (.copy 49), [10, 49], (some 10), none⟩,
     o1 11 (.lit [.b] [.bool true])])
   .ret)
   .skip))
  (.seq (.rg [o1 51 (.copy 0),
    o1 52 (.copy 1),
    o1 53 (.copy 13),
    o1 54 (.copy 2),
    ⟨true, [], [], .det 1 (.copy 4), [55], (some 55), none⟩,
    ⟨false, [], [], .call 2 117 [.t 51, .t 52, .t 53, .t 54, .t 55] (.mt 4 [] 0 55 4), [56, 4, 45, 47, 55], (some 56), none⟩,
    ⟨false, [], [], .det 2 (.copy 56), [50, 56], (some 50), none⟩,
    ⟨false, [], [], .det 2 (.ext 50 0 1), [57, 50], (some 57), none⟩,
    o1 58 (.ext 50 1 1),
    ⟨false, [], [], .det 2 (.copy 57), [15, 57], (some 15), none⟩,
    o1 16 (.copy 58)])
  (.seq (.seq (.rg [o1 59 (.copy 16)])
  (.cond (.t 59)
   (.seq (.rg [⟨false, [], [], .det 2 (.copy 12), [60, 12], (some 60), none⟩,
     ⟨false, [], [], .det 2 (.copy 60), [10, 60], (some 10), none⟩,
     o1 11 (.lit [.b] [.bool true])])
   .ret)
   .skip))
  (.rg [⟨false, [], [], .det 2 (.copy 12), [61, 12], (some 61), none⟩,
    ⟨false, [], [], .det 2 (.copy 15), [62, 15], (some 62), none⟩,
    ⟨false, [], [], .det 2 (.app (some 61) 62), [63, 61], (some 63), none⟩,
    o1 64 (.copy 2),
    o1 65 (.sli [.i .i64] [.t 64]),
    ⟨false, [], [], .det 2 (.app (some 63) 65), [66, 63], (some 66), none⟩,
    ⟨false, [], [], .det 2 (.copy 66), [12, 66], (some 12), none⟩])))))))))
  (.rg [o1 25 (.copy 13),
    o1 26 (.data (.bin .add) [.t 25, .c (.int .i64 (1))]),
    o1 13 (.copy 26)])))))))
 (.seq (.rg [⟨false, [], [], .det 2 (.copy 12), [67, 12], (some 67), none⟩,
   ⟨false, [], [], .det 2 (.copy 67), [10, 67], (some 10), none⟩,
   o1 11 (.lit [.b] [.bool false])])
 .ret)))))
def s_sl06Walk : Sig := ⟨[.rd false [.d], .rd false [.sl (.own none) [.d, .d]], .rd false [.d], .rd false [.d], .mt false [.sl (.own none) [.d]]], (.tup [(false, 1), (false, 1)] [.sl (.own none) [.d], .d])⟩
noncomputable def E_sl06Walk (q : Int × (List (Int × Int)) × Int × Int × List (Bool) → Option ((List (Int) × Bool) × List (Bool))) : TEnv := envOf [(112, p_sl05Has), (117, ⟨s_sl06Walk, [[.i .i64], [.sl [.i .i64, .i .i64]], [.i .i64], [.i .i64], [.sl [.b]]], [.sl [.i .i64], .b], [.sl [.b]], Ou.j (.mt 4 4 0), q⟩)]
noncomputable def f_sl06Walk (q : Int × (List (Int × Int)) × Int × Int × List (Bool) → Option ((List (Int) × Bool) × List (Bool))) (n : Nat) : Int × (List (Int × Int)) × Int × Int × List (Bool) → Option ((List (Int) × Bool) × List (Bool)) := runFn n (E_sl06Walk q) c_sl06Walk [[.i .i64], [.sl [.i .i64, .i .i64]], [.i .i64], [.i .i64], [.sl [.b]]] [.sl [.i .i64], .b] [.sl [.b]] [10, 11] (.mt 4 4 0)
noncomputable def g_sl06Walk : Nat → Int × (List (Int × Int)) × Int × Int × List (Bool) → Option ((List (Int) × Bool) × List (Bool))
  | 0 => fun _ => none
  | d + 1 => f_sl06Walk (g_sl06Walk d) BIG
noncomputable def p_sl06Walk (d : Nat) : TSp := ⟨s_sl06Walk, [[.i .i64], [.sl [.i .i64, .i .i64]], [.i .i64], [.i .i64], [.sl [.b]]], [.sl [.i .i64], .b], [.sl [.b]], Ou.j (.mt 4 4 0), (g_sl06Walk d)⟩
theorem k_sl06Walk (q : Int × (List (Int × Int)) × Int × Int × List (Bool) → Option ((List (Int) × Bool) × List (Bool))) : chkW PG (E_sl06Walk q) 117 s_sl06Walk (c_sl06Walk.ht 68) (.mt 4 4 0) = some (c_sl06Walk.wc (E_sl06Walk q), [10, 11]) := by kernel_rfl
theorem ok_sl06Walk : ∀ d : Nat, (p_sl06Walk d).Ok PG 117
  | 0 => fun _ _ _ h => by cases h
  | d + 1 => mkOk (env_cons ok_sl05Has (env_cons (ok_sl06Walk d) (env_nil PG))) (k_sl06Walk _) (by kernel_rfl)
theorem e_sl06Walk (q : Int × (List (Int × Int)) × Int × Int × List (Bool) → Option ((List (Int) × Bool) × List (Bool))) (n : Nat) (a0 : Int) (a1 : List (Int × Int)) (a2 : Int) (a3 : Int) (a4 : List (Bool)) : f_sl06Walk q n (a0, a1, a2, a3, a4) =
  bnd a4.length a2 fun n0 =>
  Option.bind a4[n0]? fun y1 =>
  Option.bind (loopT n (X := (List (Int)) × (List (Bool)) × Int) (B := ((List (Int)) × (List (Bool))) ⊕ ((List (Int)) × Bool × (List (Bool)))) (fun self3 x2 =>
    bif decide (x2.2.2 < a0) then
     Option.bind (Option.bind (bif decide (a2 < x2.2.2) then
        some (a2, x2.2.2)
       else some (x2.2.2, a2) : Option ((Int × Int))) fun x4 =>
      Option.bind (bif decide (x2.2.2 = a3) then
        some true
       else Option.bind (g_sl05Has (a1, x4)) fun r5 =>
       some !r5.1 : Option (Bool)) fun x6 =>
      bif x6 then
       some (Sum.inl (x2.1, x2.2.1))
      else bnd x2.2.1.length x2.2.2 fun n7 =>
      Option.bind x2.2.1[n7]? fun y8 =>
      bif y8 then
       some (Sum.inr (x2.1, true, x2.2.1))
      else Option.bind (q (a0, a1, x2.2.2, a2, x2.2.1)) fun r9 =>
      bif r9.1.2 then
       some (Sum.inr (x2.1, true, r9.2))
      else bif decide (x2.1.length + r9.1.1.length ≤ 4294967296) then
       bif decide ((x2.1 ++ r9.1.1).length + [a2].length ≤ 4294967296) then
        some (Sum.inl ((x2.1 ++ r9.1.1) ++ [a2], r9.2))
       else none
      else none : Option (((List (Int)) × (List (Bool))) ⊕ ((List (Int)) × Bool × (List (Bool))))) fun y => match y with
     | .inl x10 =>
      self3 (x10.1, x10.2, IntKind.wrap .i64 (x2.2.2 + (1 : Int)))
     | .inr x10 =>
      some (Sum.inr (x10.1, x10.2.1, x10.2.2))
    else some (Sum.inl (x2.1, x2.2.1))) ([a2], a4.set n0 true, (0 : Int)) : Option (((List (Int)) × (List (Bool))) ⊕ ((List (Int)) × Bool × (List (Bool))))) fun y => match y with
  | .inl x11 =>
   some ((x11.1, false), x11.2)
  | .inr x11 =>
   some ((x11.1, x11.2.1), x11.2.2) := by kernel_rfl
/- spec.TourOf -/
def c_sTourOf : TC :=
 (.seq (.rg [o1 6 (.lit [.sl [.i .i64]] [.slice none 0 0]),
   o1 7 (.lit [.b] [.bool false])])
 (.seq (.seq (.join [⟨20, [.b], false⟩] 2095104 none (.rg [o1 11 (.copy 0),
   o3 12 98 [.t 11, .c [.i .i64] [.int .i64 (1)], .c [.i .i64] [.int .i64 (12)]],
   o1 13 (.data .not [.t 12]),
   o1 14 (.copy 13),
   o2 15 (.copy 2) 3 false,
   o2 16 (.copy 0) 3 false,
   o2 17 (.data (.bin .sub) [.t 16, .c (.int .i64 (1))]) 3 false,
   ⟨false, [], [], .call 1 98 [.t 15, .c [.i .i64] [.int .i64 (0)], .t 17] .no, [18], (some 18), some (3, false)⟩,
   o2 19 (.data .not [.t 18]) 3 false,
   ⟨false, [], [], .pick 14 (.c (.bool true)) (.t 19), [20], (some 20), none⟩]))
 (.cond (.t 20)
  (.seq (.rg [o1 21 (.sli [.i .i64] []),
    ⟨false, [], [], .det 2 (.copy 21), [6, 21], (some 6), none⟩,
    o1 7 (.lit [.b] [.bool false])])
  .ret)
  .skip))
 (.seq (.join [] 68715282880 (some [⟨6, [.sl [.i .i64]], false⟩, ⟨7, [.b], false⟩]) (.seq (.rg [o1 8 (.lit [.i .i64] [.int .i64 (0)])])
 (.block 0 (.loop [⟨8, [.i .i64], false⟩] 68715282880
  (.seq (.seq (.rg [o1 22 (.copy 8),
    o1 23 (.copy 1),
    o1 24 (.len 23),
    o1 25 (.data (.bin .lss) [.t 22, .t 24])])
  (.cond (.t 25)
   .skip
   (.exit 0)))
  (.seq (.block 1 (.seq (.rg [o1 28 (.copy 0),
    o1 29 (.copy 1),
    o1 30 (.copy 8),
    o1 31 (.index 29 (.t 30)),
    o1 32 (.load 29 [(0, 2)] 0 (.t 31) 2 false),
    o3 33 116 [.t 28, .t 32],
    o1 34 (.data .not [.t 33])])
  (.cond (.t 34)
   (.seq (.rg [o1 35 (.sli [.i .i64] []),
     ⟨false, [], [], .det 2 (.copy 35), [6, 35], (some 6), none⟩,
     o1 7 (.lit [.b] [.bool false])])
   .ret)
   .skip)))
  (.rg [o1 26 (.copy 8),
    o1 27 (.data (.bin .add) [.t 26, .c (.int .i64 (1))]),
    o1 8 (.copy 27)])))))))
 (.seq (.rg [o1 37 (.copy 0),
   o1 38 (.copy 1),
   o1 39 (.copy 2),
   o1 40 (.copy 0),
   o1 41 (.make (.t 40) [.b]),
   ⟨false, [], [], .call 2 117 [.t 37, .t 38, .t 39, .c [.i .i64] [.int .i64 (-1)], .t 41] (.mt 41 [] 0 41 4), [42, 41], (some 42), none⟩,
   ⟨false, [], [], .det 2 (.copy 42), [36, 42], (some 36), none⟩,
   ⟨false, [], [], .det 2 (.ext 36 0 1), [43, 36], (some 43), none⟩,
   o1 44 (.ext 36 1 1),
   ⟨false, [], [], .det 2 (.copy 43), [9, 43], (some 9), none⟩,
   o1 10 (.copy 44)])
 (.seq (.seq (.rg [o1 45 (.copy 10)])
 (.cond (.t 45)
  (.seq (.rg [o1 46 (.sli [.i .i64] []),
    ⟨false, [], [], .det 2 (.copy 46), [6, 46], (some 6), none⟩,
    o1 7 (.lit [.b] [.bool false])])
  .ret)
  .skip))
 (.seq (.rg [⟨false, [], [], .det 2 (.copy 9), [47, 9], (some 47), none⟩,
   ⟨false, [], [], .det 2 (.copy 47), [6, 47], (some 6), none⟩,
   o1 7 (.lit [.b] [.bool true])])
 .ret))))))
def s_sTourOf : Sig := ⟨[.rd false [.d], .rd false [.sl (.own none) [.d, .d]], .rd false [.d]], (.tup [(false, 1), (false, 1)] [.sl (.own none) [.d], .d])⟩
noncomputable def E_sTourOf : TEnv := envOf [(98, p_sl01In), (116, p_sEdgeOk), (117, p_sl06Walk 64)]
noncomputable def f_sTourOf (n : Nat) : Int × (List (Int × Int)) × Int → Option ((List (Int) × Bool) × Unit) := runFn n E_sTourOf c_sTourOf [[.i .i64], [.sl [.i .i64, .i .i64]], [.i .i64]] [.sl [.i .i64], .b] [] [6, 7] .no
noncomputable def g_sTourOf := f_sTourOf BIG
noncomputable def p_sTourOf : TSp := ⟨s_sTourOf, [[.i .i64], [.sl [.i .i64, .i .i64]], [.i .i64]], [.sl [.i .i64], .b], [], Ou.j .no, g_sTourOf⟩
theorem k_sTourOf : chkW PG E_sTourOf 39 s_sTourOf (c_sTourOf.ht 48) .no = some (c_sTourOf.wc E_sTourOf, [6, 7]) := by kernel_rfl
theorem ok_sTourOf : p_sTourOf.Ok PG 39 := mkOk (env_cons ok_sl01In (env_cons ok_sEdgeOk (env_cons (ok_sl06Walk 64) (env_nil PG)))) k_sTourOf (by kernel_rfl)
theorem e_sTourOf (n : Nat) (a0 : Int) (a1 : List (Int × Int)) (a2 : Int) : f_sTourOf n (a0, a1, a2) =
  Option.bind (Option.bind (g_sl01In (a0, (1 : Int), (12 : Int))) fun r0 =>
   bif !r0.1 then
    some true
   else Option.bind (g_sl01In (a2, (0 : Int), IntKind.wrap .i64 (a0 - (1 : Int)))) fun r1 =>
   some !r1.1 : Option (Bool)) fun x2 =>
  bif x2 then
   some (([], false), ())
  else Option.bind (loopT n (X := Int) (B := (Unit) ⊕ ((List (Int)) × Bool)) (fun self4 x3 =>
    bif decide (x3 < (a1.length : Int)) then
     bnd a1.length x3 fun n5 =>
     Option.bind a1[n5]? fun y6 =>
     Option.bind (g_sEdgeOk (a0, y6)) fun r7 =>
     bif !r7.1 then
      some (Sum.inr ([], false))
     else self4 (IntKind.wrap .i64 (x3 + (1 : Int)))
    else some (Sum.inl ())) (0 : Int) : Option ((Unit) ⊕ ((List (Int)) × Bool))) fun y => match y with
  | .inl x8 =>
   bif decide (0 ≤ a0) then
    bif decide ((Int.toNat a0) ≤ 4294967296) then
     Option.bind (g_sl06Walk 64 (a0, a1, a2, (-1 : Int), List.replicate (Int.toNat a0) false)) fun r9 =>
     bif r9.1.2 then
      some (([], false), ())
     else some ((r9.1.1, true), ())
    else none
   else none
  | .inr x8 =>
   some (x8, ()) := by kernel_rfl
/- spec.l06Tour -/
def c_sl06Tour : TC :=
 (.seq (.rg [o1 2 (.lit [.sl [.i .i64]] [.slice none 0 0])])
 (.seq (.rg [o1 6 (.p0),
   ⟨false, [], [], .call 2 92 [.t 0, .c [.i .i64] [.int .i64 (12)]] (.mp 0), [7, 0], (some 7), none⟩,
   o1 8 (.data (.bin .add) [.c (.int .i64 (1)), .t 7]),
   o1 3 (.copy 8)])
 (.seq (.rg [o1 10 (.copy 3),
   o1 11 (.p0),
   o1 12 (.copy 3),
   ⟨false, [], [], .call 2 230 [.t 0, .t 12] (.mp 0), [13, 0], (some 13), none⟩,
   o1 14 (.p0),
   o1 15 (.copy 3),
   ⟨false, [], [], .call 2 92 [.t 0, .t 15] (.mp 0), [16, 0], (some 16), none⟩,
   o3 17 39 [.t 10, .t 13, .t 16],
   ⟨false, [], [], .det 2 (.copy 17), [9, 17], (some 9), none⟩,
   ⟨false, [], [], .det 2 (.ext 9 0 1), [18, 9], (some 18), none⟩,
   o1 19 (.ext 9 1 1),
   ⟨false, [], [], .det 2 (.copy 18), [4, 18], (some 4), none⟩,
   o1 5 (.copy 19)])
 (.seq (.rg [⟨false, [], [], .det 2 (.copy 4), [20, 4], (some 20), none⟩,
   ⟨false, [], [], .det 2 (.copy 20), [2, 20], (some 2), none⟩])
 .ret))))
def s_sl06Tour : Sig := ⟨[.mp [.sl (.ro []) [.d], .d, .d]], (.one false [.sl (.own none) [.d]])⟩
noncomputable def E_sl06Tour : TEnv := envOf [(92, p_sl01Below), (230, p_sl06Tree), (39, p_sTourOf)]
noncomputable def f_sl06Tour (n : Nat) : (List (Int) × Int × Int) → Option ((List (Int)) × List (Int) × Int × Int) := runFn n E_sl06Tour c_sl06Tour [[.sl [.i .u8], .i .i64, .i .i64]] [.sl [.i .i64]] [.sl [.i .u8], .i .i64, .i .i64] [2] (.mp 0)
noncomputable def g_sl06Tour := f_sl06Tour BIG
noncomputable def p_sl06Tour : TSp := ⟨s_sl06Tour, [[.sl [.i .u8], .i .i64, .i .i64]], [.sl [.i .i64]], [.sl [.i .u8], .i .i64, .i .i64], Ou.j (.mp 0), g_sl06Tour⟩
theorem k_sl06Tour : chkW PG E_sl06Tour 99 s_sl06Tour (c_sl06Tour.ht 21) (.mp 0) = some (c_sl06Tour.wc E_sl06Tour, [2]) := by kernel_rfl
theorem ok_sl06Tour : p_sl06Tour.Ok PG 99 := mkOk (env_cons ok_sl01Below (env_cons ok_sl06Tree (env_cons ok_sTourOf (env_nil PG)))) k_sl06Tour (by kernel_rfl)
theorem e_sl06Tour (n : Nat) (a0 : List (Int) × Int × Int) : f_sl06Tour n a0 =
  Option.bind (g_sl01Below (a0, (12 : Int))) fun r0 =>
  Option.bind (g_sl06Tree (r0.2, IntKind.wrap .i64 ((1 : Int) + r0.1))) fun r1 =>
  Option.bind (g_sl01Below (r1.2, IntKind.wrap .i64 ((1 : Int) + r0.1))) fun r2 =>
  Option.bind (g_sTourOf (IntKind.wrap .i64 ((1 : Int) + r0.1), r1.1, r2.1)) fun r3 =>
  some (r3.1.1, r2.2) := by kernel_rfl
/- spec.DrawRightTour -/
def c_sDrawRightTour : TC :=
 (.seq (.rg [o1 2 (.lit [.sl [.i .i64]] [.slice none 0 0]),
   o1 3 (.lit [.i .i64] [.int .i64 (0)])])
 (.seq (.rg [o1 6 (.copy 0),
   o3 7 90 [.t 6],
   o1 4 (.p0)])
 (.seq (.rg [o1 8 (.same 4),
   ⟨false, [], [], .call 2 99 [.t 7] (.mp 0), [9, 7], (some 9), none⟩,
   ⟨false, [], [], .det 2 (.copy 9), [5, 9], (some 5), none⟩])
 (.seq (.rg [⟨true, [5], [], .det 1 (.copy 5), [10, 5], (some 10), none⟩,
   o1 11 (.copy 5),
   o1 12 (.same 4),
   o1 13 (.copy 5),
   o1 14 (.len 13),
   ⟨false, [], [], .call 2 92 [.t 7, .t 14] (.mp 0), [15, 7], (some 15), none⟩,
   o1 16 (.index 11 (.t 15)),
   o1 17 (.load 11 [(0, 1)] 0 (.t 16) 1 false),
   o1 2 (.copy 10),
   o1 3 (.copy 17)])
 .ret))))
def s_sDrawRightTour : Sig := ⟨[.rd false [.sl (.own none) [.d]]], (.tup [(false, 1), (false, 1)] [.sl (.ro []) [.d], .d])⟩
noncomputable def E_sDrawRightTour : TEnv := envOf [(90, p_sl01New), (99, p_sl06Tour), (92, p_sl01Below)]
noncomputable def f_sDrawRightTour (n : Nat) : List (Int) → Option ((List (Int) × Int) × Unit) := runFn n E_sDrawRightTour c_sDrawRightTour [[.sl [.i .u8]]] [.sl [.i .i64], .i .i64] [] [2, 3] .no
noncomputable def g_sDrawRightTour := f_sDrawRightTour BIG
noncomputable def p_sDrawRightTour : TSp := ⟨s_sDrawRightTour, [[.sl [.i .u8]]], [.sl [.i .i64], .i .i64], [], Ou.j .no, g_sDrawRightTour⟩
theorem k_sDrawRightTour : chkW PG E_sDrawRightTour 22 s_sDrawRightTour (c_sDrawRightTour.ht 18) .no = some (c_sDrawRightTour.wc E_sDrawRightTour, [2, 3]) := by kernel_rfl
theorem ok_sDrawRightTour : p_sDrawRightTour.Ok PG 22 := mkOk (env_cons ok_sl01New (env_cons ok_sl06Tour (env_cons ok_sl01Below (env_nil PG)))) k_sDrawRightTour (by kernel_rfl)
theorem e_sDrawRightTour (n : Nat) (a0 : List (Int)) : f_sDrawRightTour n a0 =
  Option.bind (g_sl01New a0) fun r0 =>
  Option.bind (g_sl06Tour r0.1) fun r1 =>
  Option.bind (g_sl01Below (r1.2, (r1.1.length : Int))) fun r2 =>
  bnd r1.1.length r2.1 fun n3 =>
  Option.bind r1.1[n3]? fun y4 =>
  some ((r1.1, y4), ()) := by kernel_rfl
/- impl.in -/
def c_iin : TC :=
 (.seq (.rg [o1 6 (.lit [.b] [.bool false])])
 (.seq (.join [⟨6, [.b], false⟩] 32704 none (.rg [o1 7 (.copy 0),
   o1 8 (.copy 1),
   o1 9 (.data (.bin .geq) [.t 7, .t 8]),
   o1 10 (.copy 9),
   o2 11 (.copy 0) 3 true,
   o2 12 (.copy 2) 3 true,
   o2 13 (.data (.bin .leq) [.t 11, .t 12]) 3 true,
   ⟨false, [], [], .pick 10 (.t 13) (.c (.bool false)), [14], (some 14), none⟩,
   o1 6 (.copy 14)]))
 .ret))
def s_iin : Sig := ⟨[.rd false [.d], .rd false [.d], .rd false [.d]], (.one false [.d])⟩
noncomputable def E_iin : TEnv := envOf []
noncomputable def f_iin (n : Nat) : Int × Int × Int → Option ((Bool) × Unit) := runFn n E_iin c_iin [[.i .i64], [.i .i64], [.i .i64]] [.b] [] [6] .no
noncomputable def g_iin := f_iin BIG
noncomputable def p_iin : TSp := ⟨s_iin, [[.i .i64], [.i .i64], [.i .i64]], [.b], [], Ou.j .no, g_iin⟩
theorem k_iin : chkW PG E_iin 101 s_iin (c_iin.ht 15) .no = some (c_iin.wc E_iin, [6]) := by kernel_rfl
theorem ok_iin : p_iin.Ok PG 101 := mkOk (env_nil PG) k_iin (by kernel_rfl)
theorem e_iin (n : Nat) (a0 : Int) (a1 : Int) (a2 : Int) : f_iin n (a0, a1, a2) =
  Option.bind (bif decide (a1 ≤ a0) then
    some (decide (a0 ≤ a2))
   else some false : Option (Bool)) fun x0 =>
  some (x0, ()) := by kernel_rfl
/- impl.hasInt -/
def c_ihasInt : TC :=
 (.seq (.rg [o1 4 (.lit [.b] [.bool false])])
 (.seq (.join [] 131024 (some [⟨4, [.b], false⟩]) (.seq (.rg [o1 7 (.copy 0),
   o1 8 (.len 7),
   o1 9 (.lit [.i .i64] [.int .i64 (0)])])
 (.block 0 (.loop [⟨9, [.i .i64], false⟩] 130640
  (.seq (.rg [o1 10 (.data (.bin .lss) [.t 9, .t 8])])
  (.seq (.cond (.t 10)
   .skip
   (.exit 0))
  (.seq (.block 1 (.seq (.rg [o1 11 (.index 7 (.t 9)),
    o1 12 (.load 7 [(0, 1)] 0 (.t 11) 1 false),
    o1 6 (.copy 12)])
  (.seq (.rg [o1 13 (.copy 6),
    o1 14 (.copy 1),
    o1 15 (.data (.bin .eql) [.t 13, .t 14])])
  (.cond (.t 15)
   (.seq (.rg [o1 4 (.lit [.b] [.bool true])])
   .ret)
   .skip))))
  (.rg [o1 16 (.data (.bin .add) [.t 9, .c (.int .i64 (1))]),
    o1 9 (.copy 16)]))))))))
 (.seq (.rg [o1 4 (.lit [.b] [.bool false])])
 .ret)))
def s_ihasInt : Sig := ⟨[.rd false [.sl (.own none) [.d]], .rd false [.d]], (.one false [.d])⟩
noncomputable def E_ihasInt : TEnv := envOf []
noncomputable def f_ihasInt (n : Nat) : List (Int) × Int → Option ((Bool) × Unit) := runFn n E_ihasInt c_ihasInt [[.sl [.i .i64]], [.i .i64]] [.b] [] [4] .no
noncomputable def g_ihasInt := f_ihasInt BIG
noncomputable def p_ihasInt : TSp := ⟨s_ihasInt, [[.sl [.i .i64]], [.i .i64]], [.b], [], Ou.j .no, g_ihasInt⟩
theorem k_ihasInt : chkW PG E_ihasInt 102 s_ihasInt (c_ihasInt.ht 17) .no = some (c_ihasInt.wc E_ihasInt, [4]) := by kernel_rfl
theorem ok_ihasInt : p_ihasInt.Ok PG 102 := mkOk (env_nil PG) k_ihasInt (by kernel_rfl)
theorem e_ihasInt (n : Nat) (a0 : List (Int)) (a1 : Int) : f_ihasInt n (a0, a1) =
  Option.bind (loopT n (X := Int) (B := (Unit) ⊕ (Bool)) (fun self1 x0 =>
    bif decide (x0 < (a0.length : Int)) then
     bnd a0.length x0 fun n2 =>
     Option.bind a0[n2]? fun y3 =>
     bif decide (y3 = a1) then
      some (Sum.inr true)
     else self1 (IntKind.wrap .i64 (x0 + (1 : Int)))
    else some (Sum.inl ())) (0 : Int) : Option ((Unit) ⊕ (Bool))) fun y => match y with
  | .inl x4 =>
   some (false, ())
  | .inr x4 =>
   some (x4, ()) := by kernel_rfl
/- impl.TourOk -/
def c_iTourOk : TC :=
 (.seq (.rg [o1 2 (.lit [.b] [.bool false])])
 (.seq (.seq (.join [⟨18, [.b], false⟩] 524032 none (.rg [o1 8 (.copy 0),
   o1 9 (.len 8),
   o3 10 101 [.t 9, .c [.i .i64] [.int .i64 (1)], .c [.i .i64] [.int .i64 (23)]],
   o1 11 (.data .not [.t 10]),
   o1 12 (.copy 11),
   o2 13 (.copy 0) 4 false,
   o2 14 (.index 13 (.c (.int .i64 (0)))) 4 false,
   o2 15 (.load 13 [(0, 1)] 0 (.t 14) 1 false) 4 false,
   ⟨false, [], [], .call 1 101 [.t 15, .c [.i .i64] [.int .i64 (0)], .c [.i .i64] [.int .i64 (11)]] .no, [16], (some 16), some (4, false)⟩,
   o2 17 (.data .not [.t 16]) 4 false,
   ⟨false, [], [], .pick 12 (.c (.bool true)) (.t 17), [18], (some 18), none⟩]))
 (.cond (.t 18)
  (.seq (.rg [o1 2 (.lit [.b] [.bool false])])
  .ret)
  .skip))
 (.seq (.rg [o1 19 (.copy 0),
   o1 20 (.index 19 (.c (.int .i64 (0)))),
   o1 21 (.load 19 [(0, 1)] 0 (.t 20) 1 false),
   o1 22 (.sli [.i .i64] [.t 21]),
   ⟨false, [], [], .det 2 (.copy 22), [3, 22], (some 3), none⟩])
 (.seq (.rg [o1 23 (.copy 0),
   o1 24 (.index 23 (.c (.int .i64 (0)))),
   o1 25 (.load 23 [(0, 1)] 0 (.t 24) 1 false),
   o1 26 (.sli [.i .i64] [.t 25]),
   ⟨false, [], [], .det 2 (.copy 26), [4, 26], (some 4), none⟩])
 (.seq (.join [⟨3, [.sl [.i .i64]], false⟩] 1180591620717277085916 (some [⟨2, [.b], false⟩]) (.seq (.rg [o1 27 (.copy 0),
   o1 28 (.res 27 (some (.c (.int .i64 (1)))) none),
   o1 29 (.len 28),
   o1 30 (.lit [.i .i64] [.int .i64 (0)])])
 (.block 0 (.loop [⟨3, [.sl [.i .i64]], false⟩, ⟨4, [.sl [.i .i64]], false⟩, ⟨30, [.i .i64], false⟩] 1180591620716337561820
  (.seq (.rg [o1 31 (.data (.bin .lss) [.t 30, .t 29])])
  (.seq (.cond (.t 31)
   .skip
   (.exit 0))
  (.seq (.join [⟨3, [.sl [.i .i64]], false⟩, ⟨4, [.sl [.i .i64]], false⟩] 590295810354410684636 (some [⟨2, [.b], false⟩]) (.block 1 (.seq (.rg [o1 32 (.index 28 (.t 30)),
    o1 33 (.load 28 [(0, 1)] 0 (.t 32) 1 false),
    o1 6 (.copy 33)])
  (.seq (.rg [⟨true, [], [], .det 1 (.copy 3), [34], (some 34), none⟩,
    o1 35 (.len 34),
    o1 7 (.copy 35)])
  (.block 2 (.seq (.join [⟨36, [.b], false⟩] 281406257233920 none (.rg [o1 37 (.copy 7),
    o1 38 (.data (.bin .gtr) [.t 37, .c (.int .i64 (1))]),
    o1 39 (.copy 38),
    ⟨true, [], [], .det 1 (.copy 3), [40], (some 40), some (2, true)⟩,
    o2 41 (.copy 7) 2 true,
    o2 42 (.data (.bin .sub) [.t 41, .c (.int .i64 (2))]) 2 true,
    o2 43 (.index 40 (.t 42)) 2 true,
    o2 44 (.load 3 [(0, 1)] 0 (.t 43) 1 false) 2 true,
    o2 45 (.copy 6) 2 true,
    o2 46 (.data (.bin .eql) [.t 44, .t 45]) 2 true,
    ⟨false, [], [], .pick 39 (.t 46) (.c (.bool false)), [47], (some 47), none⟩,
    o1 36 (.copy 47)]))
  (.cond (.t 36)
   (.rg [⟨false, [], [], .det 2 (.copy 3), [48, 3, 34], (some 48), none⟩,
     o1 49 (.copy 7),
     o1 50 (.data (.bin .sub) [.t 49, .c (.int .i64 (1))]),
     ⟨true, [], [], .det 2 (.res 48 none (some (.t 50))), [51, 48], (some 51), none⟩,
     ⟨false, [], [], .det 2 (.copy 51), [3, 51, 34], (some 3), none⟩])
   (.seq (.join [⟨52, [.b], false⟩] 2301339409586323456 none (.rg [o1 53 (.copy 6),
     o3 54 101 [.t 53, .c [.i .i64] [.int .i64 (0)], .c [.i .i64] [.int .i64 (11)]],
     o1 55 (.copy 54),
     ⟨true, [], [], .det 1 (.copy 4), [56], (some 56), some (2, true)⟩,
     o2 57 (.copy 6) 2 true,
     ⟨false, [], [], .call 1 102 [.t 56, .t 57] .no, [58], (some 58), some (2, true)⟩,
     o2 59 (.data .not [.t 58]) 2 true,
     ⟨false, [], [], .pick 55 (.t 59) (.c (.bool false)), [60], (some 60), none⟩,
     o1 52 (.copy 60)]))
   (.cond (.t 52)
    (.rg [⟨false, [], [], .det 2 (.copy 3), [61, 3, 34], (some 61), none⟩,
      o1 62 (.copy 6),
      o1 63 (.sli [.i .i64] [.t 62]),
      ⟨false, [], [], .det 2 (.app (some 61) 63), [64, 61], (some 64), none⟩,
      ⟨false, [], [], .det 2 (.copy 4), [65, 4], (some 65), none⟩,
      o1 66 (.copy 6),
      o1 67 (.sli [.i .i64] [.t 66]),
      ⟨false, [], [], .det 2 (.app (some 65) 67), [68, 65], (some 68), none⟩,
      ⟨false, [], [], .det 2 (.copy 64), [3, 64, 34], (some 3), none⟩,
      ⟨false, [], [], .det 2 (.copy 68), [4, 68], (some 4), none⟩])
    (.seq (.rg [o1 2 (.lit [.b] [.bool false])])
    .ret))))))))))
  (.rg [o1 69 (.data (.bin .add) [.t 30, .c (.int .i64 (1))]),
    o1 30 (.copy 69)]))))))))
 (.seq (.rg [⟨false, [], [], .det 2 (.copy 3), [70, 3], (some 70), none⟩,
   o1 71 (.len 70),
   o1 72 (.data (.bin .eql) [.t 71, .c (.int .i64 (1))]),
   o1 2 (.copy 72)])
 .ret))))))
def s_iTourOk : Sig := ⟨[.rd false [.sl (.own none) [.d]]], (.one false [.d])⟩
noncomputable def E_iTourOk : TEnv := envOf [(101, p_iin), (102, p_ihasInt)]
noncomputable def f_iTourOk (n : Nat) : List (Int) → Option ((Bool) × Unit) := runFn n E_iTourOk c_iTourOk [[.sl [.i .i64]]] [.b] [] [2] .no
noncomputable def g_iTourOk := f_iTourOk BIG
noncomputable def p_iTourOk : TSp := ⟨s_iTourOk, [[.sl [.i .i64]]], [.b], [], Ou.j .no, g_iTourOk⟩
theorem k_iTourOk : chkW PG E_iTourOk 24 s_iTourOk (c_iTourOk.ht 73) .no = some (c_iTourOk.wc E_iTourOk, [2]) := by kernel_rfl
theorem ok_iTourOk : p_iTourOk.Ok PG 24 := mkOk (env_cons ok_iin (env_cons ok_ihasInt (env_nil PG))) k_iTourOk (by kernel_rfl)
theorem e_iTourOk (n : Nat) (a0 : List (Int)) : f_iTourOk n a0 =
  Option.bind (Option.bind (g_iin ((a0.length : Int), (1 : Int), (23 : Int))) fun r0 =>
   bif !r0.1 then
    some true
   else bnd a0.length (0 : Int) fun n1 =>
   Option.bind a0[n1]? fun y2 =>
   Option.bind (g_iin (y2, (0 : Int), (11 : Int))) fun r3 =>
   some !r3.1 : Option (Bool)) fun x4 =>
  bif x4 then
   some (false, ())
  else bnd a0.length (0 : Int) fun n5 =>
  Option.bind a0[n5]? fun y6 =>
  bnd a0.length (0 : Int) fun n7 =>
  Option.bind a0[n7]? fun y8 =>
  Option.bind (bif decide (0 ≤ (1 : Int)) then
    bif decide ((Int.toNat (1 : Int)) ≤ a0.length ∧ a0.length ≤ a0.length) then
     loopT n (X := (List (Int)) × (List (Int)) × Int) (B := ((List (Int))) ⊕ (Bool)) (fun self10 x9 =>
      bif decide (x9.2.2 < ((List.take (a0.length - (Int.toNat (1 : Int))) (List.drop (Int.toNat (1 : Int)) a0)).length : Int)) then
       Option.bind (bnd (List.take (a0.length - (Int.toNat (1 : Int))) (List.drop (Int.toNat (1 : Int)) a0)).length x9.2.2 fun n11 =>
        Option.bind (List.take (a0.length - (Int.toNat (1 : Int))) (List.drop (Int.toNat (1 : Int)) a0))[n11]? fun y12 =>
        Option.bind (bif decide ((1 : Int) < (x9.1.length : Int)) then
          bnd x9.1.length (IntKind.wrap .i64 ((x9.1.length : Int) - (2 : Int))) fun n13 =>
          Option.bind x9.1[n13]? fun y14 =>
          some (decide (y14 = y12))
         else some false : Option (Bool)) fun x15 =>
        bif x15 then
         bif decide (0 ≤ (IntKind.wrap .i64 ((x9.1.length : Int) - (1 : Int)))) then
          bif decide (0 ≤ (Int.toNat (IntKind.wrap .i64 ((x9.1.length : Int) - (1 : Int)))) ∧ (Int.toNat (IntKind.wrap .i64 ((x9.1.length : Int) - (1 : Int)))) ≤ x9.1.length) then
           some (Sum.inl (List.take ((Int.toNat (IntKind.wrap .i64 ((x9.1.length : Int) - (1 : Int)))) - 0) (List.drop 0 x9.1), x9.2.1))
          else none
         else none
        else Option.bind (Option.bind (g_iin (y12, (0 : Int), (11 : Int))) fun r16 =>
         bif r16.1 then
          Option.bind (g_ihasInt (x9.2.1, y12)) fun r17 =>
          some !r17.1
         else some false : Option (Bool)) fun x18 =>
        bif x18 then
         bif decide (x9.1.length + [y12].length ≤ 4294967296) then
          bif decide (x9.2.1.length + [y12].length ≤ 4294967296) then
           some (Sum.inl (x9.1 ++ [y12], x9.2.1 ++ [y12]))
          else none
         else none
        else some (Sum.inr false) : Option (((List (Int)) × (List (Int))) ⊕ (Bool))) fun y => match y with
       | .inl x19 =>
        self10 (x19.1, x19.2, IntKind.wrap .i64 (x9.2.2 + (1 : Int)))
       | .inr x19 =>
        some (Sum.inr x19)
      else some (Sum.inl x9.1)) ([y6], [y8], (0 : Int))
    else none
   else none : Option (((List (Int))) ⊕ (Bool))) fun y => match y with
  | .inl x20 =>
   some (decide ((x20.length : Int) = (1 : Int)), ())
  | .inr x20 =>
   some (x20, ()) := by kernel_rfl
/- impl.copyInts -/
def c_icopyInts : TC :=
 (.seq (.rg [o1 2 (.lit [.sl [.i .i64]] [.slice none 0 0])])
 (.seq (.rg [o1 3 (.copy 0),
   o1 4 (.app none 3),
   ⟨false, [], [], .det 2 (.copy 4), [2, 4], (some 2), none⟩])
 .ret))
def s_icopyInts : Sig := ⟨[.rd false [.sl (.own none) [.d]]], (.one false [.sl (.own none) [.d]])⟩
noncomputable def E_icopyInts : TEnv := envOf []
noncomputable def f_icopyInts (n : Nat) : List (Int) → Option ((List (Int)) × Unit) := runFn n E_icopyInts c_icopyInts [[.sl [.i .i64]]] [.sl [.i .i64]] [] [2] .no
noncomputable def g_icopyInts := f_icopyInts BIG
noncomputable def p_icopyInts : TSp := ⟨s_icopyInts, [[.sl [.i .i64]]], [.sl [.i .i64]], [], Ou.j .no, g_icopyInts⟩
theorem k_icopyInts : chkW PG E_icopyInts 100 s_icopyInts (c_icopyInts.ht 5) .no = some (c_icopyInts.wc E_icopyInts, [2]) := by kernel_rfl
theorem ok_icopyInts : p_icopyInts.Ok PG 100 := mkOk (env_nil PG) k_icopyInts (by kernel_rfl)
theorem e_icopyInts (n : Nat) (a0 : List (Int)) : f_icopyInts n a0 =
  bif decide (a0.length ≤ 4294967296) then
   some (a0, ())
  else none := by kernel_rfl
/- impl.SplitTour -/
def c_iSplitTour : TC :=
 (.seq (.rg [o1 6 (.lit [.sl [.i .i64]] [.slice none 0 0]),
   o1 7 (.lit [.sl [.i .i64]] [.slice none 0 0]),
   o1 8 (.lit [.b] [.bool false])])
 (.seq (.seq (.rg [o1 12 (.copy 0),
   o3 13 24 [.t 12],
   o1 14 (.data .not [.t 13])])
 (.cond (.t 14)
  (.seq (.rg [o1 6 (.lit [.sl [.i .i64]] [.slice none 0 0]),
    o1 7 (.lit [.sl [.i .i64]] [.slice none 0 0]),
    o1 8 (.lit [.b] [.bool false])])
  .ret)
  .skip))
 (.seq (.rg [o1 9 (.lit [.i .i64] [.int .i64 (-1)]),
   o1 10 (.lit [.i .i64] [.int .i64 (-1)])])
 (.seq (.join [⟨9, [.i .i64], false⟩, ⟨10, [.i .i64], false⟩] 288230376151682560 none (.seq (.rg [o1 11 (.lit [.i .i64] [.int .i64 (0)])])
 (.block 0 (.loop [⟨9, [.i .i64], false⟩, ⟨10, [.i .i64], false⟩, ⟨11, [.i .i64], false⟩] 288230376151682560
  (.seq (.seq (.rg [o1 15 (.copy 11),
    o1 16 (.data (.bin .add) [.t 15, .c (.int .i64 (1))]),
    o1 17 (.copy 0),
    o1 18 (.len 17),
    o1 19 (.data (.bin .lss) [.t 16, .t 18])])
  (.cond (.t 19)
   .skip
   (.exit 0)))
  (.seq (.join [⟨9, [.i .i64], false⟩, ⟨10, [.i .i64], false⟩] 288230376147518976 none (.block 1 (.seq (.join [⟨53, [.b], false⟩] 18014398505287680 none (.rg [o1 22 (.copy 0),
    o1 23 (.copy 11),
    o1 24 (.index 22 (.t 23)),
    o1 25 (.load 22 [(0, 1)] 0 (.t 24) 1 false),
    o1 26 (.copy 1),
    o1 27 (.data (.bin .eql) [.t 25, .t 26]),
    o1 28 (.copy 27),
    o2 29 (.copy 0) 6 true,
    o2 30 (.copy 11) 6 true,
    o2 31 (.data (.bin .add) [.t 30, .c (.int .i64 (1))]) 6 true,
    o2 32 (.index 29 (.t 31)) 6 true,
    o2 33 (.load 29 [(0, 1)] 0 (.t 32) 1 false) 6 true,
    o2 34 (.copy 2) 6 true,
    o2 35 (.data (.bin .eql) [.t 33, .t 34]) 6 true,
    ⟨false, [], [], .pick 28 (.t 35) (.c (.bool false)), [36], (some 36), none⟩,
    o1 37 (.copy 36),
    o2 38 (.copy 0) 15 false,
    o2 39 (.copy 11) 15 false,
    o2 40 (.index 38 (.t 39)) 15 false,
    o2 41 (.load 38 [(0, 1)] 0 (.t 40) 1 false) 15 false,
    o2 42 (.copy 2) 15 false,
    o2 43 (.data (.bin .eql) [.t 41, .t 42]) 15 false,
    o2 44 (.copy 43) 15 false,
    o2 45 (.copy 0) 22 true,
    o2 46 (.copy 11) 22 true,
    o2 47 (.data (.bin .add) [.t 46, .c (.int .i64 (1))]) 22 true,
    o2 48 (.index 45 (.t 47)) 22 true,
    o2 49 (.load 45 [(0, 1)] 0 (.t 48) 1 false) 22 true,
    o2 50 (.copy 1) 22 true,
    o2 51 (.data (.bin .eql) [.t 49, .t 50]) 22 true,
    ⟨false, [], [], .pick 44 (.t 51) (.c (.bool false)), [52], (some 52), some (15, false)⟩,
    ⟨false, [], [], .pick 37 (.c (.bool true)) (.t 52), [53], (some 53), none⟩]))
  (.cond (.t 53)
   (.seq (.join [⟨9, [.i .i64], false⟩] 126100789566374400 none (.seq (.rg [o1 54 (.copy 9),
     o1 55 (.data (.bin .lss) [.t 54, .c (.int .i64 (0))])])
   (.cond (.t 55)
    (.rg [o1 56 (.copy 11),
      o1 9 (.copy 56)])
    .skip)))
   (.rg [o1 57 (.copy 11),
     o1 10 (.copy 57)]))
   .skip))))
  (.rg [o1 20 (.copy 11),
    o1 21 (.data (.bin .add) [.t 20, .c (.int .i64 (1))]),
    o1 11 (.copy 21)])))))))
 (.seq (.seq (.rg [o1 58 (.copy 9),
   o1 59 (.data (.bin .lss) [.t 58, .c (.int .i64 (0))])])
 (.cond (.t 59)
  (.seq (.rg [o1 6 (.lit [.sl [.i .i64]] [.slice none 0 0]),
    o1 7 (.lit [.sl [.i .i64]] [.slice none 0 0]),
    o1 8 (.lit [.b] [.bool false])])
  .ret)
  .skip))
 (.seq (.rg [o1 60 (.copy 0),
   o1 61 (.copy 9),
   o1 62 (.data (.bin .add) [.t 61, .c (.int .i64 (1))]),
   o1 63 (.res 60 none (some (.t 62))),
   o3 64 100 [.t 63],
   o1 65 (.copy 0),
   o1 66 (.copy 10),
   o1 67 (.data (.bin .add) [.t 66, .c (.int .i64 (2))]),
   o1 68 (.res 65 (some (.t 67)) none),
   ⟨false, [], [], .det 2 (.app (some 64) 68), [69, 64], (some 69), none⟩,
   o1 70 (.copy 0),
   o1 71 (.copy 9),
   o1 72 (.data (.bin .add) [.t 71, .c (.int .i64 (1))]),
   o1 73 (.copy 10),
   o1 74 (.data (.bin .add) [.t 73, .c (.int .i64 (1))]),
   o1 75 (.res 70 (some (.t 72)) (some (.t 74))),
   o3 76 100 [.t 75],
   ⟨false, [], [], .det 2 (.copy 69), [6, 69], (some 6), none⟩,
   ⟨false, [], [], .det 2 (.copy 76), [7, 76], (some 7), none⟩,
   o1 8 (.lit [.b] [.bool true])])
 .ret))))))
def s_iSplitTour : Sig := ⟨[.rd false [.sl (.own none) [.d]], .rd false [.d], .rd false [.d]], (.tup [(false, 1), (false, 1), (false, 1)] [.sl (.own none) [.d], .sl (.own none) [.d], .d])⟩
noncomputable def E_iSplitTour : TEnv := envOf [(24, p_iTourOk), (100, p_icopyInts)]
noncomputable def f_iSplitTour (n : Nat) : List (Int) × Int × Int → Option ((List (Int) × List (Int) × Bool) × Unit) := runFn n E_iSplitTour c_iSplitTour [[.sl [.i .i64]], [.i .i64], [.i .i64]] [.sl [.i .i64], .sl [.i .i64], .b] [] [6, 7, 8] .no
noncomputable def g_iSplitTour := f_iSplitTour BIG
noncomputable def p_iSplitTour : TSp := ⟨s_iSplitTour, [[.sl [.i .i64]], [.i .i64], [.i .i64]], [.sl [.i .i64], .sl [.i .i64], .b], [], Ou.j .no, g_iSplitTour⟩
theorem k_iSplitTour : chkW PG E_iSplitTour 23 s_iSplitTour (c_iSplitTour.ht 77) .no = some (c_iSplitTour.wc E_iSplitTour, [6, 7, 8]) := by kernel_rfl
theorem ok_iSplitTour : p_iSplitTour.Ok PG 23 := mkOk (env_cons ok_iTourOk (env_cons ok_icopyInts (env_nil PG))) k_iSplitTour (by kernel_rfl)
theorem e_iSplitTour (n : Nat) (a0 : List (Int)) (a1 : Int) (a2 : Int) : f_iSplitTour n (a0, a1, a2) =
  Option.bind (g_iTourOk a0) fun r0 =>
  bif !r0.1 then
   some (([], [], false), ())
  else Option.bind (loopT n (X := Int × Int × Int) (B := Int × Int) (fun self2 x1 =>
    bif decide ((IntKind.wrap .i64 (x1.2.2 + (1 : Int))) < (a0.length : Int)) then
     Option.bind (Option.bind (bnd a0.length x1.2.2 fun n3 =>
       Option.bind a0[n3]? fun y4 =>
       bif decide (y4 = a1) then
        bnd a0.length (IntKind.wrap .i64 (x1.2.2 + (1 : Int))) fun n5 =>
        Option.bind a0[n5]? fun y6 =>
        bif decide (y6 = a2) then
         some true
        else bnd a0.length x1.2.2 fun n7 =>
        Option.bind a0[n7]? fun y8 =>
        bif decide (y8 = a2) then
         bnd a0.length (IntKind.wrap .i64 (x1.2.2 + (1 : Int))) fun n9 =>
         Option.bind a0[n9]? fun y10 =>
         some (decide (y10 = a1))
        else some false
       else bnd a0.length x1.2.2 fun n11 =>
       Option.bind a0[n11]? fun y12 =>
       bif decide (y12 = a2) then
        bnd a0.length (IntKind.wrap .i64 (x1.2.2 + (1 : Int))) fun n13 =>
        Option.bind a0[n13]? fun y14 =>
        some (decide (y14 = a1))
       else some false : Option (Bool)) fun x15 =>
      bif x15 then
       Option.bind (bif decide (x1.1 < (0 : Int)) then
         some x1.2.2
        else some x1.1 : Option (Int)) fun x16 =>
       some (x16, x1.2.2)
      else some (x1.1, x1.2.1) : Option (Int × Int)) fun x17 =>
     self2 (x17.1, x17.2, IntKind.wrap .i64 (x1.2.2 + (1 : Int)))
    else some (x1.1, x1.2.1)) ((-1 : Int), (-1 : Int), (0 : Int)) : Option (Int × Int)) fun x18 =>
  bif decide (x18.1 < (0 : Int)) then
   some (([], [], false), ())
  else bif decide (0 ≤ (IntKind.wrap .i64 (x18.1 + (1 : Int)))) then
   bif decide (0 ≤ (Int.toNat (IntKind.wrap .i64 (x18.1 + (1 : Int)))) ∧ (Int.toNat (IntKind.wrap .i64 (x18.1 + (1 : Int)))) ≤ a0.length) then
    Option.bind (g_icopyInts (List.take ((Int.toNat (IntKind.wrap .i64 (x18.1 + (1 : Int)))) - 0) (List.drop 0 a0))) fun r19 =>
    bif decide (0 ≤ (IntKind.wrap .i64 (x18.2 + (2 : Int)))) then
     bif decide ((Int.toNat (IntKind.wrap .i64 (x18.2 + (2 : Int)))) ≤ a0.length ∧ a0.length ≤ a0.length) then
      bif decide (r19.1.length + (List.take (a0.length - (Int.toNat (IntKind.wrap .i64 (x18.2 + (2 : Int))))) (List.drop (Int.toNat (IntKind.wrap .i64 (x18.2 + (2 : Int)))) a0)).length ≤ 4294967296) then
       bif decide (0 ≤ (IntKind.wrap .i64 (x18.1 + (1 : Int)))) then
        bif decide (0 ≤ (IntKind.wrap .i64 (x18.2 + (1 : Int)))) then
         bif decide ((Int.toNat (IntKind.wrap .i64 (x18.1 + (1 : Int)))) ≤ (Int.toNat (IntKind.wrap .i64 (x18.2 + (1 : Int)))) ∧ (Int.toNat (IntKind.wrap .i64 (x18.2 + (1 : Int)))) ≤ a0.length) then
          Option.bind (g_icopyInts (List.take ((Int.toNat (IntKind.wrap .i64 (x18.2 + (1 : Int)))) - (Int.toNat (IntKind.wrap .i64 (x18.1 + (1 : Int))))) (List.drop (Int.toNat (IntKind.wrap .i64 (x18.1 + (1 : Int)))) a0))) fun r20 =>
          some ((r19.1 ++ (List.take (a0.length - (Int.toNat (IntKind.wrap .i64 (x18.2 + (2 : Int))))) (List.drop (Int.toNat (IntKind.wrap .i64 (x18.2 + (2 : Int)))) a0)), r20.1, true), ())
         else none
        else none
       else none
      else none
     else none
    else none
   else none
  else none := by kernel_rfl
/- spec.DrawPlaces -/
def c_sDrawPlaces : TC :=
 (.seq (.rg [o1 2 (.lit [.sl [.i .i64]] [.slice none 0 0])])
 (.seq (.rg [o1 6 (.copy 0),
   o3 7 90 [.t 6],
   o1 3 (.p0)])
 (.seq (.rg [o1 8 (.same 3),
   ⟨false, [], [], .call 2 103 [.t 7] (.mp 0), [9, 7], (some 9), none⟩])
 (.seq (.rg [o1 10 (.sli [.i .i64] []),
   ⟨false, [], [], .det 2 (.copy 10), [4, 10], (some 4), none⟩])
 (.seq (.join [⟨4, [.sl [.i .i64]], false⟩] 1046704 none (.seq (.rg [o1 5 (.lit [.i .i64] [.int .i64 (0)])])
 (.block 0 (.loop [⟨4, [.sl [.i .i64]], false⟩, ⟨7, [.sl [.i .u8], .i .i64, .i .i64], false⟩, ⟨5, [.i .i64], false⟩] 1046704
  (.seq (.seq (.rg [o1 11 (.copy 5),
    o1 12 (.data (.bin .lss) [.t 11, .c (.int .i64 (12))])])
  (.cond (.t 12)
   .skip
   (.exit 0)))
  (.seq (.block 1 (.rg [⟨false, [], [], .det 2 (.copy 4), [15, 4], (some 15), none⟩,
    o1 16 (.same 3),
    ⟨false, [], [], .call 2 92 [.t 7, .c [.i .i64] [.int .i64 (10000)]] (.mp 0), [17, 7], (some 17), none⟩,
    o1 18 (.sli [.i .i64] [.t 17]),
    ⟨false, [], [], .det 2 (.app (some 15) 18), [19, 15], (some 19), none⟩,
    ⟨false, [], [], .det 2 (.copy 19), [4, 19], (some 4), none⟩]))
  (.rg [o1 13 (.copy 5),
    o1 14 (.data (.bin .add) [.t 13, .c (.int .i64 (1))]),
    o1 5 (.copy 14)])))))))
 (.seq (.rg [⟨false, [], [], .det 2 (.copy 4), [20, 4], (some 20), none⟩,
   ⟨false, [], [], .det 2 (.copy 20), [2, 20], (some 2), none⟩])
 .ret))))))
def s_sDrawPlaces : Sig := ⟨[.rd false [.sl (.own none) [.d]]], (.one false [.sl (.own none) [.d]])⟩
noncomputable def E_sDrawPlaces : TEnv := envOf [(90, p_sl01New), (103, p_sl01Byte), (92, p_sl01Below)]
noncomputable def f_sDrawPlaces (n : Nat) : List (Int) → Option ((List (Int)) × Unit) := runFn n E_sDrawPlaces c_sDrawPlaces [[.sl [.i .u8]]] [.sl [.i .i64]] [] [2] .no
noncomputable def g_sDrawPlaces := f_sDrawPlaces BIG
noncomputable def p_sDrawPlaces : TSp := ⟨s_sDrawPlaces, [[.sl [.i .u8]]], [.sl [.i .i64]], [], Ou.j .no, g_sDrawPlaces⟩
theorem k_sDrawPlaces : chkW PG E_sDrawPlaces 25 s_sDrawPlaces (c_sDrawPlaces.ht 21) .no = some (c_sDrawPlaces.wc E_sDrawPlaces, [2]) := by kernel_rfl
theorem ok_sDrawPlaces : p_sDrawPlaces.Ok PG 25 := mkOk (env_cons ok_sl01New (env_cons ok_sl01Byte (env_cons ok_sl01Below (env_nil PG)))) k_sDrawPlaces (by kernel_rfl)
theorem e_sDrawPlaces (n : Nat) (a0 : List (Int)) : f_sDrawPlaces n a0 =
  Option.bind (g_sl01New a0) fun r0 =>
  Option.bind (g_sl01Byte r0.1) fun r1 =>
  Option.bind (loopT n (X := (List (Int)) × (List (Int) × Int × Int) × Int) (B := (List (Int))) (fun self3 x2 =>
    bif decide (x2.2.2 < (12 : Int)) then
     Option.bind (g_sl01Below (x2.2.1, (10000 : Int))) fun r4 =>
     bif decide (x2.1.length + [r4.1].length ≤ 4294967296) then
      self3 (x2.1 ++ [r4.1], r4.2, IntKind.wrap .i64 (x2.2.2 + (1 : Int)))
     else none
    else some x2.1) ([], r1.2, (0 : Int)) : Option ((List (Int)))) fun x5 =>
  some (x5, ()) := by kernel_rfl
/- laws.sameInts -/
def c_lsameInts : TC :=
 (.seq (.rg [o1 4 (.lit [.b] [.bool false])])
 (.seq (.seq (.rg [o1 6 (.copy 0),
   o1 7 (.len 6),
   o1 8 (.copy 1),
   o1 9 (.len 8),
   o1 10 (.data (.bin .neq) [.t 7, .t 9])])
 (.cond (.t 10)
  (.seq (.rg [o1 4 (.lit [.b] [.bool false])])
  .ret)
  .skip))
 (.seq (.join [] 67106864 (some [⟨4, [.b], false⟩]) (.seq (.rg [o1 5 (.lit [.i .i64] [.int .i64 (0)])])
 (.block 0 (.loop [⟨5, [.i .i64], false⟩] 67106864
  (.seq (.seq (.rg [o1 11 (.copy 5),
    o1 12 (.copy 0),
    o1 13 (.len 12),
    o1 14 (.data (.bin .lss) [.t 11, .t 13])])
  (.cond (.t 14)
   .skip
   (.exit 0)))
  (.seq (.block 1 (.seq (.rg [o1 17 (.copy 0),
    o1 18 (.copy 5),
    o1 19 (.index 17 (.t 18)),
    o1 20 (.load 17 [(0, 1)] 0 (.t 19) 1 false),
    o1 21 (.copy 1),
    o1 22 (.copy 5),
    o1 23 (.index 21 (.t 22)),
    o1 24 (.load 21 [(0, 1)] 0 (.t 23) 1 false),
    o1 25 (.data (.bin .neq) [.t 20, .t 24])])
  (.cond (.t 25)
   (.seq (.rg [o1 4 (.lit [.b] [.bool false])])
   .ret)
   .skip)))
  (.rg [o1 15 (.copy 5),
    o1 16 (.data (.bin .add) [.t 15, .c (.int .i64 (1))]),
    o1 5 (.copy 16)])))))))
 (.seq (.rg [o1 4 (.lit [.b] [.bool true])])
 .ret))))
def s_lsameInts : Sig := ⟨[.rd false [.sl (.own none) [.d]], .rd false [.sl (.own none) [.d]]], (.one false [.d])⟩
noncomputable def E_lsameInts : TEnv := envOf []
noncomputable def f_lsameInts (n : Nat) : List (Int) × List (Int) → Option ((Bool) × Unit) := runFn n E_lsameInts c_lsameInts [[.sl [.i .i64]], [.sl [.i .i64]]] [.b] [] [4] .no
noncomputable def g_lsameInts := f_lsameInts BIG
noncomputable def p_lsameInts : TSp := ⟨s_lsameInts, [[.sl [.i .i64]], [.sl [.i .i64]]], [.b], [], Ou.j .no, g_lsameInts⟩
theorem k_lsameInts : chkW PG E_lsameInts 26 s_lsameInts (c_lsameInts.ht 26) .no = some (c_lsameInts.wc E_lsameInts, [4]) := by kernel_rfl
theorem ok_lsameInts : p_lsameInts.Ok PG 26 := mkOk (env_nil PG) k_lsameInts (by kernel_rfl)
theorem e_lsameInts (n : Nat) (a0 : List (Int)) (a1 : List (Int)) : f_lsameInts n (a0, a1) =
  bif !decide ((a0.length : Int) = (a1.length : Int)) then
   some (false, ())
  else Option.bind (loopT n (X := Int) (B := (Unit) ⊕ (Bool)) (fun self1 x0 =>
    bif decide (x0 < (a0.length : Int)) then
     bnd a0.length x0 fun n2 =>
     Option.bind a0[n2]? fun y3 =>
     bnd a1.length x0 fun n4 =>
     Option.bind a1[n4]? fun y5 =>
     bif !decide (y3 = y5) then
      some (Sum.inr false)
     else self1 (IntKind.wrap .i64 (x0 + (1 : Int)))
    else some (Sum.inl ())) (0 : Int) : Option ((Unit) ⊕ (Bool))) fun y => match y with
  | .inl x6 =>
   some (true, ())
  | .inr x6 =>
   some (x6, ()) := by kernel_rfl
/- laws.in -/
def c_lin : TC :=
 (.seq (.rg [o1 4 (.lit [.b] [.bool false])])
 (.seq (.join [] 262128 (some [⟨4, [.b], false⟩]) (.seq (.rg [o1 5 (.lit [.i .i64] [.int .i64 (0)])])
 (.block 0 (.loop [⟨5, [.i .i64], false⟩] 262128
  (.seq (.seq (.rg [o1 6 (.copy 5),
    o1 7 (.copy 0),
    o1 8 (.len 7),
    o1 9 (.data (.bin .lss) [.t 6, .t 8])])
  (.cond (.t 9)
   .skip
   (.exit 0)))
  (.seq (.block 1 (.seq (.rg [o1 12 (.copy 0),
    o1 13 (.copy 5),
    o1 14 (.index 12 (.t 13)),
    o1 15 (.load 12 [(0, 1)] 0 (.t 14) 1 false),
    o1 16 (.copy 1),
    o1 17 (.data (.bin .eql) [.t 15, .t 16])])
  (.cond (.t 17)
   (.seq (.rg [o1 4 (.lit [.b] [.bool true])])
   .ret)
   .skip)))
  (.rg [o1 10 (.copy 5),
    o1 11 (.data (.bin .add) [.t 10, .c (.int .i64 (1))]),
    o1 5 (.copy 11)])))))))
 (.seq (.rg [o1 4 (.lit [.b] [.bool false])])
 .ret)))
def s_lin : Sig := ⟨[.rd false [.sl (.own none) [.d]], .rd false [.d]], (.one false [.d])⟩
noncomputable def E_lin : TEnv := envOf []
noncomputable def f_lin (n : Nat) : List (Int) × Int → Option ((Bool) × Unit) := runFn n E_lin c_lin [[.sl [.i .i64]], [.i .i64]] [.b] [] [4] .no
noncomputable def g_lin := f_lin BIG
noncomputable def p_lin : TSp := ⟨s_lin, [[.sl [.i .i64]], [.i .i64]], [.b], [], Ou.j .no, g_lin⟩
theorem k_lin : chkW PG E_lin 27 s_lin (c_lin.ht 18) .no = some (c_lin.wc E_lin, [4]) := by kernel_rfl
theorem ok_lin : p_lin.Ok PG 27 := mkOk (env_nil PG) k_lin (by kernel_rfl)
theorem e_lin (n : Nat) (a0 : List (Int)) (a1 : Int) : f_lin n (a0, a1) =
  Option.bind (loopT n (X := Int) (B := (Unit) ⊕ (Bool)) (fun self1 x0 =>
    bif decide (x0 < (a0.length : Int)) then
     bnd a0.length x0 fun n2 =>
     Option.bind a0[n2]? fun y3 =>
     bif decide (y3 = a1) then
      some (Sum.inr true)
     else self1 (IntKind.wrap .i64 (x0 + (1 : Int)))
    else some (Sum.inl ())) (0 : Int) : Option ((Unit) ⊕ (Bool))) fun y => match y with
  | .inl x4 =>
   some (false, ())
  | .inr x4 =>
   some (x4, ()) := by kernel_rfl
/- impl.placeOf -/
def c_iplaceOf : TC :=
 (.seq (.rg [o1 4 (.lit [.i .i64] [.int .i64 (0)])])
 (.seq (.join [] 524272 (some [⟨4, [.i .i64], false⟩]) (.seq (.rg [o1 7 (.copy 0),
   o1 8 (.len 7),
   o1 9 (.lit [.i .i64] [.int .i64 (0)])])
 (.block 0 (.loop [⟨9, [.i .i64], false⟩] 523888
  (.seq (.rg [o1 10 (.data (.bin .lss) [.t 9, .t 8])])
  (.seq (.cond (.t 10)
   .skip
   (.exit 0))
  (.seq (.block 1 (.seq (.rg [o1 11 (.copy 9),
    o1 12 (.index 7 (.t 9)),
    o1 13 (.load 7 [(0, 1)] 0 (.t 12) 1 false),
    o1 5 (.copy 11),
    o1 6 (.copy 13)])
  (.seq (.rg [o1 14 (.copy 6),
    o1 15 (.copy 1),
    o1 16 (.data (.bin .eql) [.t 14, .t 15])])
  (.cond (.t 16)
   (.seq (.rg [o1 17 (.copy 5),
     o1 4 (.copy 17)])
   .ret)
   .skip))))
  (.rg [o1 18 (.data (.bin .add) [.t 9, .c (.int .i64 (1))]),
    o1 9 (.copy 18)]))))))))
 (.seq (.rg [o1 4 (.lit [.i .i64] [.int .i64 (-1)])])
 .ret)))
def s_iplaceOf : Sig := ⟨[.rd false [.sl (.own none) [.d]], .rd false [.d]], (.one false [.d])⟩
noncomputable def E_iplaceOf : TEnv := envOf []
noncomputable def f_iplaceOf (n : Nat) : List (Int) × Int → Option ((Int) × Unit) := runFn n E_iplaceOf c_iplaceOf [[.sl [.i .i64]], [.i .i64]] [.i .i64] [] [4] .no
noncomputable def g_iplaceOf := f_iplaceOf BIG
noncomputable def p_iplaceOf : TSp := ⟨s_iplaceOf, [[.sl [.i .i64]], [.i .i64]], [.i .i64], [], Ou.j .no, g_iplaceOf⟩
theorem k_iplaceOf : chkW PG E_iplaceOf 104 s_iplaceOf (c_iplaceOf.ht 19) .no = some (c_iplaceOf.wc E_iplaceOf, [4]) := by kernel_rfl
theorem ok_iplaceOf : p_iplaceOf.Ok PG 104 := mkOk (env_nil PG) k_iplaceOf (by kernel_rfl)
theorem e_iplaceOf (n : Nat) (a0 : List (Int)) (a1 : Int) : f_iplaceOf n (a0, a1) =
  Option.bind (loopT n (X := Int) (B := (Unit) ⊕ (Int)) (fun self1 x0 =>
    bif decide (x0 < (a0.length : Int)) then
     bnd a0.length x0 fun n2 =>
     Option.bind a0[n2]? fun y3 =>
     bif decide (y3 = a1) then
      some (Sum.inr x0)
     else self1 (IntKind.wrap .i64 (x0 + (1 : Int)))
    else some (Sum.inl ())) (0 : Int) : Option ((Unit) ⊕ (Int))) fun y => match y with
  | .inl x4 =>
   some ((-1 : Int), ())
  | .inr x4 =>
   some (x4, ()) := by kernel_rfl
/- impl.Reroot -/
def c_iReroot : TC :=
 (.seq (.rg [o1 4 (.lit [.sl [.i .i64]] [.slice none 0 0]),
   o1 5 (.lit [.b] [.bool false])])
 (.seq (.rg [o1 8 (.copy 0),
   o1 9 (.copy 1),
   o3 10 104 [.t 8, .t 9],
   o1 6 (.copy 10)])
 (.seq (.seq (.join [⟨17, [.b], false⟩] 260096 none (.rg [o1 11 (.copy 0),
   o3 12 24 [.t 11],
   o1 13 (.data .not [.t 12]),
   o1 14 (.copy 13),
   o2 15 (.copy 6) 3 false,
   o2 16 (.data (.bin .lss) [.t 15, .c (.int .i64 (0))]) 3 false,
   ⟨false, [], [], .pick 14 (.c (.bool true)) (.t 16), [17], (some 17), none⟩]))
 (.cond (.t 17)
  (.seq (.rg [o1 4 (.lit [.sl [.i .i64]] [.slice none 0 0]),
    o1 5 (.lit [.b] [.bool false])])
  .ret)
  .skip))
 (.seq (.rg [o1 18 (.copy 0),
   o1 19 (.copy 6),
   o1 20 (.copy 0),
   o1 21 (.len 20),
   o1 22 (.data (.bin .sub) [.t 21, .c (.int .i64 (1))]),
   o1 23 (.res 18 (some (.t 19)) (some (.t 22))),
   o3 24 100 [.t 23],
   ⟨false, [], [], .det 2 (.copy 24), [7, 24], (some 7), none⟩])
 (.seq (.rg [⟨false, [], [], .det 2 (.copy 7), [25, 7], (some 25), none⟩,
   o1 26 (.copy 0),
   o1 27 (.copy 6),
   o1 28 (.res 26 none (some (.t 27))),
   ⟨false, [], [], .det 2 (.app (some 25) 28), [29, 25], (some 29), none⟩,
   o1 30 (.copy 1),
   o1 31 (.sli [.i .i64] [.t 30]),
   ⟨false, [], [], .det 2 (.app (some 29) 31), [32, 29], (some 32), none⟩,
   ⟨false, [], [], .det 2 (.copy 32), [4, 32], (some 4), none⟩,
   o1 5 (.lit [.b] [.bool true])])
 .ret)))))
def s_iReroot : Sig := ⟨[.rd false [.sl (.own none) [.d]], .rd false [.d]], (.tup [(false, 1), (false, 1)] [.sl (.own none) [.d], .d])⟩
noncomputable def E_iReroot : TEnv := envOf [(104, p_iplaceOf), (24, p_iTourOk), (100, p_icopyInts)]
noncomputable def f_iReroot (n : Nat) : List (Int) × Int → Option ((List (Int) × Bool) × Unit) := runFn n E_iReroot c_iReroot [[.sl [.i .i64]], [.i .i64]] [.sl [.i .i64], .b] [] [4, 5] .no
noncomputable def g_iReroot := f_iReroot BIG
noncomputable def p_iReroot : TSp := ⟨s_iReroot, [[.sl [.i .i64]], [.i .i64]], [.sl [.i .i64], .b], [], Ou.j .no, g_iReroot⟩
theorem k_iReroot : chkW PG E_iReroot 30 s_iReroot (c_iReroot.ht 33) .no = some (c_iReroot.wc E_iReroot, [4, 5]) := by kernel_rfl
theorem ok_iReroot : p_iReroot.Ok PG 30 := mkOk (env_cons ok_iplaceOf (env_cons ok_iTourOk (env_cons ok_icopyInts (env_nil PG)))) k_iReroot (by kernel_rfl)
theorem e_iReroot (n : Nat) (a0 : List (Int)) (a1 : Int) : f_iReroot n (a0, a1) =
  Option.bind (g_iplaceOf (a0, a1)) fun r0 =>
  Option.bind (Option.bind (g_iTourOk a0) fun r1 =>
   bif !r1.1 then
    some true
   else some (decide (r0.1 < (0 : Int))) : Option (Bool)) fun x2 =>
  bif x2 then
   some (([], false), ())
  else bif decide (0 ≤ r0.1) then
   bif decide (0 ≤ (IntKind.wrap .i64 ((a0.length : Int) - (1 : Int)))) then
    bif decide ((Int.toNat r0.1) ≤ (Int.toNat (IntKind.wrap .i64 ((a0.length : Int) - (1 : Int)))) ∧ (Int.toNat (IntKind.wrap .i64 ((a0.length : Int) - (1 : Int)))) ≤ a0.length) then
     Option.bind (g_icopyInts (List.take ((Int.toNat (IntKind.wrap .i64 ((a0.length : Int) - (1 : Int)))) - (Int.toNat r0.1)) (List.drop (Int.toNat r0.1) a0))) fun r3 =>
     bif decide (0 ≤ r0.1) then
      bif decide (0 ≤ (Int.toNat r0.1) ∧ (Int.toNat r0.1) ≤ a0.length) then
       bif decide (r3.1.length + (List.take ((Int.toNat r0.1) - 0) (List.drop 0 a0)).length ≤ 4294967296) then
        bif decide ((r3.1 ++ (List.take ((Int.toNat r0.1) - 0) (List.drop 0 a0))).length + [a1].length ≤ 4294967296) then
         some (((r3.1 ++ (List.take ((Int.toNat r0.1) - 0) (List.drop 0 a0))) ++ [a1], true), ())
        else none
       else none
      else none
     else none
    else none
   else none
  else none := by kernel_rfl
/- impl.JoinTours -/
def c_iJoinTours : TC :=
 (.seq (.rg [o1 8 (.lit [.sl [.i .i64]] [.slice none 0 0]),
   o1 9 (.lit [.b] [.bool false])])
 (.seq (.rg [o1 17 (.copy 2),
   o1 18 (.copy 3),
   o3 19 30 [.t 17, .t 18],
   ⟨false, [], [], .det 2 (.copy 19), [16, 19], (some 16), none⟩,
   ⟨false, [], [], .det 2 (.ext 16 0 1), [20, 16], (some 20), none⟩,
   o1 21 (.ext 16 1 1),
   ⟨false, [], [], .det 2 (.copy 20), [10, 20], (some 10), none⟩,
   o1 11 (.copy 21)])
 (.seq (.seq (.join [⟨34, [.b], false⟩] 34355544064 none (.rg [o1 22 (.copy 0),
   o3 23 24 [.t 22],
   o1 24 (.data .not [.t 23]),
   o1 25 (.copy 24),
   o2 26 (.copy 11) 3 false,
   o2 27 (.data .not [.t 26]) 3 false,
   ⟨false, [], [], .pick 25 (.c (.bool true)) (.t 27), [28], (some 28), none⟩,
   o1 29 (.copy 28),
   o2 30 (.copy 0) 7 false,
   o2 31 (.copy 1) 7 false,
   ⟨false, [], [], .call 1 104 [.t 30, .t 31] .no, [32], (some 32), some (7, false)⟩,
   o2 33 (.data (.bin .lss) [.t 32, .c (.int .i64 (0))]) 7 false,
   ⟨false, [], [], .pick 29 (.c (.bool true)) (.t 33), [34], (some 34), none⟩]))
 (.cond (.t 34)
  (.seq (.rg [o1 8 (.lit [.sl [.i .i64]] [.slice none 0 0]),
    o1 9 (.lit [.b] [.bool false])])
  .ret)
  .skip))
 (.seq (.join [] 35150012359424 (some [⟨8, [.sl [.i .i64]], false⟩, ⟨9, [.b], false⟩]) (.seq (.rg [o1 35 (.copy 0),
   o1 36 (.len 35),
   o1 37 (.lit [.i .i64] [.int .i64 (0)])])
 (.block 0 (.loop [⟨37, [.i .i64], false⟩] 35046933144320
  (.seq (.rg [o1 38 (.data (.bin .lss) [.t 37, .t 36])])
  (.seq (.cond (.t 38)
   .skip
   (.exit 0))
  (.seq (.block 1 (.seq (.rg [o1 39 (.index 35 (.t 37)),
    o1 40 (.load 35 [(0, 1)] 0 (.t 39) 1 false),
    o1 13 (.copy 40)])
  (.seq (.rg [o1 41 (.copy 2),
    o1 42 (.copy 13),
    o3 43 102 [.t 41, .t 42]])
  (.cond (.t 43)
   (.seq (.rg [o1 8 (.lit [.sl [.i .i64]] [.slice none 0 0]),
     o1 9 (.lit [.b] [.bool false])])
   .ret)
   .skip))))
  (.rg [o1 44 (.data (.bin .add) [.t 37, .c (.int .i64 (1))]),
    o1 37 (.copy 44)]))))))))
 (.seq (.rg [o1 45 (.copy 0),
   o1 46 (.len 45),
   o1 47 (.data (.bin .sub) [.t 46, .c (.int .i64 (1))]),
   o1 14 (.copy 47)])
 (.seq (.join [⟨14, [.i .i64], false⟩] 71776119061233664 none (.block 2 (.loop [⟨14, [.i .i64], false⟩] 71776119061233664
  (.seq (.seq (.rg [o1 48 (.copy 0),
    o1 49 (.copy 14),
    o1 50 (.index 48 (.t 49)),
    o1 51 (.load 48 [(0, 1)] 0 (.t 50) 1 false),
    o1 52 (.copy 1),
    o1 53 (.data (.bin .neq) [.t 51, .t 52])])
  (.cond (.t 53)
   .skip
   (.exit 2)))
  (.block 3 (.rg [o1 54 (.copy 14),
    o1 55 (.data (.bin .sub) [.t 54, .c (.int .i64 (1))]),
    o1 14 (.copy 55)]))))))
 (.seq (.rg [o1 56 (.copy 0),
   o1 57 (.copy 14),
   o1 58 (.data (.bin .add) [.t 57, .c (.int .i64 (1))]),
   o1 59 (.res 56 none (some (.t 58))),
   o3 60 100 [.t 59],
   ⟨false, [], [], .det 2 (.copy 10), [61, 10], (some 61), none⟩,
   ⟨false, [], [], .det 2 (.app (some 60) 61), [62, 60], (some 62), none⟩,
   ⟨false, [], [], .det 2 (.copy 62), [15, 62], (some 15), none⟩])
 (.seq (.rg [⟨false, [], [], .det 2 (.copy 15), [63, 15], (some 63), none⟩,
   o1 64 (.copy 0),
   o1 65 (.copy 14),
   o1 66 (.res 64 (some (.t 65)) none),
   ⟨false, [], [], .det 2 (.app (some 63) 66), [67, 63], (some 67), none⟩,
   ⟨false, [], [], .det 2 (.copy 67), [8, 67], (some 8), none⟩,
   o1 9 (.lit [.b] [.bool true])])
 .ret))))))))
def s_iJoinTours : Sig := ⟨[.rd false [.sl (.own none) [.d]], .rd false [.d], .rd false [.sl (.own none) [.d]], .rd false [.d]], (.tup [(false, 1), (false, 1)] [.sl (.own none) [.d], .d])⟩
noncomputable def E_iJoinTours : TEnv := envOf [(30, p_iReroot), (24, p_iTourOk), (104, p_iplaceOf), (102, p_ihasInt), (100, p_icopyInts)]
noncomputable def f_iJoinTours (n : Nat) : List (Int) × Int × List (Int) × Int → Option ((List (Int) × Bool) × Unit) := runFn n E_iJoinTours c_iJoinTours [[.sl [.i .i64]], [.i .i64], [.sl [.i .i64]], [.i .i64]] [.sl [.i .i64], .b] [] [8, 9] .no
noncomputable def g_iJoinTours := f_iJoinTours BIG
noncomputable def p_iJoinTours : TSp := ⟨s_iJoinTours, [[.sl [.i .i64]], [.i .i64], [.sl [.i .i64]], [.i .i64]], [.sl [.i .i64], .b], [], Ou.j .no, g_iJoinTours⟩
theorem k_iJoinTours : chkW PG E_iJoinTours 28 s_iJoinTours (c_iJoinTours.ht 68) .no = some (c_iJoinTours.wc E_iJoinTours, [8, 9]) := by kernel_rfl
theorem ok_iJoinTours : p_iJoinTours.Ok PG 28 := mkOk (env_cons ok_iReroot (env_cons ok_iTourOk (env_cons ok_iplaceOf (env_cons ok_ihasInt (env_cons ok_icopyInts (env_nil PG)))))) k_iJoinTours (by kernel_rfl)
theorem e_iJoinTours (n : Nat) (a0 : List (Int)) (a1 : Int) (a2 : List (Int)) (a3 : Int) : f_iJoinTours n (a0, a1, a2, a3) =
  Option.bind (g_iReroot (a2, a3)) fun r0 =>
  Option.bind (Option.bind (g_iTourOk a0) fun r1 =>
   bif !r1.1 then
    some true
   else bif !r0.1.2 then
    some true
   else Option.bind (g_iplaceOf (a0, a1)) fun r2 =>
   some (decide (r2.1 < (0 : Int))) : Option (Bool)) fun x3 =>
  bif x3 then
   some (([], false), ())
  else Option.bind (loopT n (X := Int) (B := (Unit) ⊕ ((List (Int)) × Bool)) (fun self5 x4 =>
    bif decide (x4 < (a0.length : Int)) then
     bnd a0.length x4 fun n6 =>
     Option.bind a0[n6]? fun y7 =>
     Option.bind (g_ihasInt (a2, y7)) fun r8 =>
     bif r8.1 then
      some (Sum.inr ([], false))
     else self5 (IntKind.wrap .i64 (x4 + (1 : Int)))
    else some (Sum.inl ())) (0 : Int) : Option ((Unit) ⊕ ((List (Int)) × Bool))) fun y => match y with
  | .inl x9 =>
   Option.bind (loopT n (X := Int) (B := Int) (fun self11 x10 =>
     bnd a0.length x10 fun n12 =>
     Option.bind a0[n12]? fun y13 =>
     bif !decide (y13 = a1) then
      self11 (IntKind.wrap .i64 (x10 - (1 : Int)))
     else some x10) (IntKind.wrap .i64 ((a0.length : Int) - (1 : Int))) : Option (Int)) fun x14 =>
   bif decide (0 ≤ (IntKind.wrap .i64 (x14 + (1 : Int)))) then
    bif decide (0 ≤ (Int.toNat (IntKind.wrap .i64 (x14 + (1 : Int)))) ∧ (Int.toNat (IntKind.wrap .i64 (x14 + (1 : Int)))) ≤ a0.length) then
     Option.bind (g_icopyInts (List.take ((Int.toNat (IntKind.wrap .i64 (x14 + (1 : Int)))) - 0) (List.drop 0 a0))) fun r15 =>
     bif decide (r15.1.length + r0.1.1.length ≤ 4294967296) then
      bif decide (0 ≤ x14) then
       bif decide ((Int.toNat x14) ≤ a0.length ∧ a0.length ≤ a0.length) then
        bif decide ((r15.1 ++ r0.1.1).length + (List.take (a0.length - (Int.toNat x14)) (List.drop (Int.toNat x14) a0)).length ≤ 4294967296) then
         some (((r15.1 ++ r0.1.1) ++ (List.take (a0.length - (Int.toNat x14)) (List.drop (Int.toNat x14) a0)), true), ())
        else none
       else none
      else none
     else none
    else none
   else none
  | .inr x9 =>
   some (x9, ()) := by kernel_rfl
/- impl.with -/
def c_iwith : TC :=
 (.seq (.rg [o1 4 (.lit [.sl [.i .i64]] [.slice none 0 0])])
 (.seq (.rg [o1 5 (.lit [.i .i64] [.int .i64 (0)])])
 (.seq (.join [⟨5, [.i .i64], false⟩] 1048544 none (.block 0 (.loop [⟨5, [.i .i64], false⟩] 1048544
  (.seq (.seq (.join [⟨17, [.b], false⟩] 262080 none (.rg [o1 6 (.copy 5),
    ⟨true, [], [], .det 1 (.copy 0), [7], (some 7), none⟩,
    o1 8 (.len 7),
    o1 9 (.data (.bin .lss) [.t 6, .t 8]),
    o1 10 (.copy 9),
    ⟨true, [], [], .det 1 (.copy 0), [11], (some 11), some (4, true)⟩,
    o2 12 (.copy 5) 4 true,
    o2 13 (.index 11 (.t 12)) 4 true,
    o2 14 (.load 0 [(0, 1)] 0 (.t 13) 1 false) 4 true,
    o2 15 (.copy 1) 4 true,
    o2 16 (.data (.bin .lss) [.t 14, .t 15]) 4 true,
    ⟨false, [], [], .pick 10 (.t 16) (.c (.bool false)), [17], (some 17), none⟩]))
  (.cond (.t 17)
   .skip
   (.exit 0)))
  (.block 1 (.rg [o1 18 (.copy 5),
    o1 19 (.data (.bin .add) [.t 18, .c (.int .i64 (1))]),
    o1 5 (.copy 19)]))))))
 (.seq (.seq (.join [⟨31, [.b], false⟩] 4293918720 none (.rg [o1 20 (.copy 5),
   ⟨true, [], [], .det 1 (.copy 0), [21], (some 21), none⟩,
   o1 22 (.len 21),
   o1 23 (.data (.bin .lss) [.t 20, .t 22]),
   o1 24 (.copy 23),
   ⟨true, [], [], .det 1 (.copy 0), [25], (some 25), some (4, true)⟩,
   o2 26 (.copy 5) 4 true,
   o2 27 (.index 25 (.t 26)) 4 true,
   o2 28 (.load 0 [(0, 1)] 0 (.t 27) 1 false) 4 true,
   o2 29 (.copy 1) 4 true,
   o2 30 (.data (.bin .eql) [.t 28, .t 29]) 4 true,
   ⟨false, [], [], .pick 24 (.t 30) (.c (.bool false)), [31], (some 31), none⟩]))
 (.cond (.t 31)
  (.seq (.rg [⟨false, [], [], .det 2 (.copy 0), [32, 0, 7, 21], (some 32), none⟩,
    ⟨false, [], [], .det 2 (.copy 32), [4, 32], (some 4), none⟩])
  .ret)
  .skip))
 (.seq (.rg [⟨true, [], [], .det 1 (.copy 0), [33], (some 33), none⟩,
   o1 34 (.copy 5),
   o1 35 (.res 33 none (some (.t 34))),
   o3 36 100 [.t 35],
   o1 37 (.copy 1),
   o1 38 (.sli [.i .i64] [.t 37]),
   ⟨false, [], [], .det 2 (.app (some 36) 38), [39, 36], (some 39), none⟩,
   ⟨true, [], [], .det 1 (.copy 0), [40], (some 40), none⟩,
   o1 41 (.copy 5),
   o1 42 (.res 40 (some (.t 41)) none),
   ⟨false, [], [], .det 2 (.app (some 39) 42), [43, 39], (some 43), none⟩,
   ⟨false, [], [], .det 2 (.copy 43), [4, 43], (some 4), none⟩])
 .ret)))))
def s_iwith : Sig := ⟨[.tk false [.sl (.own none) [.d]], .rd false [.d]], (.one false [.sl (.own none) [.d]])⟩
noncomputable def E_iwith : TEnv := envOf [(100, p_icopyInts)]
noncomputable def f_iwith (n : Nat) : List (Int) × Int → Option ((List (Int)) × Unit) := runFn n E_iwith c_iwith [[.sl [.i .i64]], [.i .i64]] [.sl [.i .i64]] [] [4] .no
noncomputable def g_iwith := f_iwith BIG
noncomputable def p_iwith : TSp := ⟨s_iwith, [[.sl [.i .i64]], [.i .i64]], [.sl [.i .i64]], [], Ou.j .no, g_iwith⟩
theorem k_iwith : chkW PG E_iwith 105 s_iwith (c_iwith.ht 44) .no = some (c_iwith.wc E_iwith, [4]) := by kernel_rfl
theorem ok_iwith : p_iwith.Ok PG 105 := mkOk (env_cons ok_icopyInts (env_nil PG)) k_iwith (by kernel_rfl)
theorem e_iwith (n : Nat) (a0 : List (Int)) (a1 : Int) : f_iwith n (a0, a1) =
  Option.bind (loopT n (X := Int) (B := Int) (fun self1 x0 =>
    Option.bind (bif decide (x0 < (a0.length : Int)) then
      bnd a0.length x0 fun n2 =>
      Option.bind a0[n2]? fun y3 =>
      some (decide (y3 < a1))
     else some false : Option (Bool)) fun x4 =>
    bif x4 then
     self1 (IntKind.wrap .i64 (x0 + (1 : Int)))
    else some x0) (0 : Int) : Option (Int)) fun x5 =>
  Option.bind (bif decide (x5 < (a0.length : Int)) then
    bnd a0.length x5 fun n6 =>
    Option.bind a0[n6]? fun y7 =>
    some (decide (y7 = a1))
   else some false : Option (Bool)) fun x8 =>
  bif x8 then
   some (a0, ())
  else bif decide (0 ≤ x5) then
   bif decide (0 ≤ (Int.toNat x5) ∧ (Int.toNat x5) ≤ a0.length) then
    Option.bind (g_icopyInts (List.take ((Int.toNat x5) - 0) (List.drop 0 a0))) fun r9 =>
    bif decide (r9.1.length + [a1].length ≤ 4294967296) then
     bif decide (0 ≤ x5) then
      bif decide ((Int.toNat x5) ≤ a0.length ∧ a0.length ≤ a0.length) then
       bif decide ((r9.1 ++ [a1]).length + (List.take (a0.length - (Int.toNat x5)) (List.drop (Int.toNat x5) a0)).length ≤ 4294967296) then
        some ((r9.1 ++ [a1]) ++ (List.take (a0.length - (Int.toNat x5)) (List.drop (Int.toNat x5) a0)), ())
       else none
      else none
     else none
    else none
   else none
  else none := by kernel_rfl
/- impl.VertsOf -/
def c_iVertsOf : TC :=
 (.seq (.rg [o1 2 (.lit [.sl [.i .i64]] [.slice none 0 0])])
 (.seq (.rg [o1 3 (.lit [.sl [.i .i64]] [.slice none 0 0])])
 (.seq (.join [⟨3, [.sl [.i .i64]], false⟩] 65512 none (.seq (.rg [o1 6 (.copy 0),
   o1 7 (.len 6),
   o1 8 (.lit [.i .i64] [.int .i64 (0)])])
 (.block 0 (.loop [⟨3, [.sl [.i .i64]], false⟩, ⟨8, [.i .i64], false⟩] 65320
  (.seq (.rg [o1 9 (.data (.bin .lss) [.t 8, .t 7])])
  (.seq (.cond (.t 9)
   .skip
   (.exit 0))
  (.seq (.block 1 (.seq (.rg [o1 10 (.index 6 (.t 8)),
    o1 11 (.load 6 [(0, 1)] 0 (.t 10) 1 false),
    o1 5 (.copy 11)])
  (.rg [⟨false, [], [], .det 2 (.copy 3), [12, 3], (some 12), none⟩,
    o1 13 (.copy 5),
    ⟨false, [], [], .call 2 105 [.t 12, .t 13] .no, [14, 12], (some 14), none⟩,
    ⟨false, [], [], .det 2 (.copy 14), [3, 14], (some 3), none⟩])))
  (.rg [o1 15 (.data (.bin .add) [.t 8, .c (.int .i64 (1))]),
    o1 8 (.copy 15)]))))))))
 (.seq (.rg [⟨false, [], [], .det 2 (.copy 3), [16, 3], (some 16), none⟩,
   ⟨false, [], [], .det 2 (.copy 16), [2, 16], (some 2), none⟩])
 .ret))))
def s_iVertsOf : Sig := ⟨[.rd false [.sl (.own none) [.d]]], (.one false [.sl (.own none) [.d]])⟩
noncomputable def E_iVertsOf : TEnv := envOf [(105, p_iwith)]
noncomputable def f_iVertsOf (n : Nat) : List (Int) → Option ((List (Int)) × Unit) := runFn n E_iVertsOf c_iVertsOf [[.sl [.i .i64]]] [.sl [.i .i64]] [] [2] .no
noncomputable def g_iVertsOf := f_iVertsOf BIG
noncomputable def p_iVertsOf : TSp := ⟨s_iVertsOf, [[.sl [.i .i64]]], [.sl [.i .i64]], [], Ou.j .no, g_iVertsOf⟩
theorem k_iVertsOf : chkW PG E_iVertsOf 29 s_iVertsOf (c_iVertsOf.ht 17) .no = some (c_iVertsOf.wc E_iVertsOf, [2]) := by kernel_rfl
theorem ok_iVertsOf : p_iVertsOf.Ok PG 29 := mkOk (env_cons ok_iwith (env_nil PG)) k_iVertsOf (by kernel_rfl)
theorem e_iVertsOf (n : Nat) (a0 : List (Int)) : f_iVertsOf n a0 =
  Option.bind (loopT n (X := (List (Int)) × Int) (B := (List (Int))) (fun self1 x0 =>
    bif decide (x0.2 < (a0.length : Int)) then
     bnd a0.length x0.2 fun n2 =>
     Option.bind a0[n2]? fun y3 =>
     Option.bind (g_iwith (x0.1, y3)) fun r4 =>
     self1 (r4.1, IntKind.wrap .i64 (x0.2 + (1 : Int)))
    else some x0.1) ([], (0 : Int)) : Option ((List (Int)))) fun x5 =>
  some (x5, ()) := by kernel_rfl
/- laws.FnSplits -/
def c_lFnSplits : TC :=
 (.seq (.rg [o1 2 (.lit [.b] [.bool false])])
 (.seq (.seq (.rg [o1 19 (.copy 0),
   o3 20 17 [.t 19]])
 (.cond (.t 20)
  (.seq (.rg [o1 2 (.lit [.b] [.bool true])])
  .ret)
  .skip))
 (.seq (.rg [o1 22 (.copy 0),
   o3 23 22 [.t 22],
   ⟨false, [], [], .det 2 (.copy 23), [21, 23], (some 21), none⟩,
   o1 24 (.ext 21 0 1),
   o1 25 (.ext 21 1 1),
   o1 3 (.copy 24),
   o1 4 (.copy 25)])
 (.seq (.seq (.rg [o1 26 (.copy 3),
   o1 27 (.len 26),
   o1 28 (.data (.bin .lss) [.t 27, .c (.int .i64 (3))])])
 (.cond (.t 28)
  (.seq (.rg [o1 30 (.copy 3),
    o3 31 23 [.t 30, .c [.i .i64] [.int .i64 (0)], .c [.i .i64] [.int .i64 (1)]],
    ⟨false, [], [], .det 2 (.copy 31), [29, 31], (some 29), none⟩,
    ⟨false, [], [], .det 2 (.ext 29 0 1), [32, 29], (some 32), none⟩,
    ⟨false, [], [], .det 2 (.ext 29 1 1), [33, 29], (some 33), none⟩,
    o1 34 (.ext 29 2 1),
    ⟨false, [], [], .det 2 (.copy 32), [5, 32], (some 5), none⟩,
    ⟨false, [], [], .det 2 (.copy 33), [6, 33], (some 6), none⟩,
    o1 7 (.copy 34)])
  (.seq (.join [⟨2, [.b], false⟩] 2164663517188 none (.rg [o1 35 (.copy 7),
    o1 36 (.data .not [.t 35]),
    o1 37 (.copy 36),
    o2 38 (.copy 3) 2 true,
    ⟨false, [], [], .call 1 24 [.t 38] .no, [39], (some 39), some (2, true)⟩,
    ⟨false, [], [], .pick 37 (.t 39) (.c (.bool false)), [40], (some 40), none⟩,
    o1 2 (.copy 40)]))
  .ret))
  .skip))
 (.seq (.rg [o1 41 (.copy 0),
   o3 42 25 [.t 41],
   o1 43 (.index 42 (.c (.int .i64 (0)))),
   o1 44 (.load 42 [(0, 1)] 0 (.t 43) 1 false),
   o1 45 (.copy 3),
   o1 46 (.len 45),
   o1 47 (.data (.bin .sub) [.t 46, .c (.int .i64 (1))]),
   o1 48 (.data (.bin .rem) [.t 44, .t 47]),
   o1 8 (.copy 48)])
 (.seq (.rg [o1 50 (.copy 3),
   o1 51 (.copy 3),
   o1 52 (.copy 8),
   o1 53 (.index 51 (.t 52)),
   o1 54 (.load 51 [(0, 1)] 0 (.t 53) 1 false),
   o1 55 (.copy 3),
   o1 56 (.copy 8),
   o1 57 (.data (.bin .add) [.t 56, .c (.int .i64 (1))]),
   o1 58 (.index 55 (.t 57)),
   o1 59 (.load 55 [(0, 1)] 0 (.t 58) 1 false),
   o3 60 23 [.t 50, .t 54, .t 59],
   ⟨false, [], [], .det 2 (.copy 60), [49, 60], (some 49), none⟩,
   ⟨false, [], [], .det 2 (.ext 49 0 1), [61, 49], (some 61), none⟩,
   ⟨false, [], [], .det 2 (.ext 49 1 1), [62, 49], (some 62), none⟩,
   o1 63 (.ext 49 2 1),
   ⟨false, [], [], .det 2 (.copy 61), [9, 61], (some 9), none⟩,
   ⟨false, [], [], .det 2 (.copy 62), [10, 62], (some 10), none⟩,
   o1 11 (.copy 63)])
 (.seq (.rg [o1 65 (.copy 3),
   o1 66 (.copy 3),
   o1 67 (.copy 8),
   o1 68 (.data (.bin .add) [.t 67, .c (.int .i64 (1))]),
   o1 69 (.index 66 (.t 68)),
   o1 70 (.load 66 [(0, 1)] 0 (.t 69) 1 false),
   o1 71 (.copy 3),
   o1 72 (.copy 8),
   o1 73 (.index 71 (.t 72)),
   o1 74 (.load 71 [(0, 1)] 0 (.t 73) 1 false),
   o3 75 23 [.t 65, .t 70, .t 74],
   ⟨false, [], [], .det 2 (.copy 75), [64, 75], (some 64), none⟩,
   ⟨false, [], [], .det 2 (.ext 64 0 1), [76, 64], (some 76), none⟩,
   ⟨false, [], [], .det 2 (.ext 64 1 1), [77, 64], (some 77), none⟩,
   o1 78 (.ext 64 2 1),
   ⟨false, [], [], .det 2 (.copy 76), [12, 76], (some 12), none⟩,
   ⟨false, [], [], .det 2 (.copy 77), [13, 77], (some 13), none⟩,
   o1 14 (.copy 78)])
 (.seq (.seq (.join [⟨126, [.b], false⟩] 170141183460468627268777496401296764928 none (.rg [o1 79 (.copy 11),
   o1 80 (.data .not [.t 79]),
   o1 81 (.copy 80),
   o2 82 (.copy 14) 2 false,
   o2 83 (.data .not [.t 82]) 2 false,
   ⟨false, [], [], .pick 81 (.c (.bool true)) (.t 83), [84], (some 84), none⟩,
   o1 85 (.copy 84),
   ⟨true, [], [12], .det 1 (.copy 9), [86], (some 86), some (6, false)⟩,
   ⟨false, [], [], .det 2 (.copy 12), [87, 12], (some 87), some (6, false)⟩,
   ⟨false, [], [], .call 1 26 [.t 86, .t 87] .no, [88], (some 88), some (6, false)⟩,
   o2 89 (.data .not [.t 88]) 6 false,
   ⟨false, [], [], .pick 85 (.c (.bool true)) (.t 89), [90], (some 90), none⟩,
   o1 91 (.copy 90),
   ⟨true, [], [13], .det 1 (.copy 10), [92], (some 92), some (12, false)⟩,
   ⟨false, [], [], .det 2 (.copy 13), [93, 13], (some 93), some (12, false)⟩,
   ⟨false, [], [], .call 1 26 [.t 92, .t 93] .no, [94], (some 94), some (12, false)⟩,
   o2 95 (.data .not [.t 94]) 12 false,
   ⟨false, [], [], .pick 91 (.c (.bool true)) (.t 95), [96], (some 96), none⟩,
   o1 97 (.copy 96),
   ⟨true, [], [], .det 1 (.copy 9), [98], (some 98), some (18, false)⟩,
   ⟨false, [], [], .call 1 24 [.t 98] .no, [99], (some 99), some (18, false)⟩,
   o2 100 (.data .not [.t 99]) 18 false,
   ⟨false, [], [], .pick 97 (.c (.bool true)) (.t 100), [101], (some 101), none⟩,
   o1 102 (.copy 101),
   ⟨true, [], [], .det 1 (.copy 10), [103], (some 103), some (23, false)⟩,
   ⟨false, [], [], .call 1 24 [.t 103] .no, [104], (some 104), some (23, false)⟩,
   o2 105 (.data .not [.t 104]) 23 false,
   ⟨false, [], [], .pick 102 (.c (.bool true)) (.t 105), [106], (some 106), none⟩,
   o1 107 (.copy 106),
   ⟨true, [], [], .det 1 (.copy 9), [108], (some 108), some (28, false)⟩,
   o2 109 (.index 108 (.c (.int .i64 (0)))) 28 false,
   o2 110 (.load 9 [(0, 1)] 0 (.t 109) 1 false) 28 false,
   o2 111 (.copy 3) 28 false,
   o2 112 (.index 111 (.c (.int .i64 (0)))) 28 false,
   o2 113 (.load 111 [(0, 1)] 0 (.t 112) 1 false) 28 false,
   o2 114 (.data (.bin .neq) [.t 110, .t 113]) 28 false,
   ⟨false, [], [], .pick 107 (.c (.bool true)) (.t 114), [115], (some 115), none⟩,
   o1 116 (.copy 115),
   ⟨true, [], [], .det 1 (.copy 9), [117], (some 117), some (37, false)⟩,
   o2 118 (.len 117) 37 false,
   ⟨true, [], [], .det 1 (.copy 10), [119], (some 119), some (37, false)⟩,
   o2 120 (.len 119) 37 false,
   o2 121 (.data (.bin .add) [.t 118, .t 120]) 37 false,
   o2 122 (.data (.bin .add) [.t 121, .c (.int .i64 (1))]) 37 false,
   o2 123 (.copy 3) 37 false,
   o2 124 (.len 123) 37 false,
   o2 125 (.data (.bin .neq) [.t 122, .t 124]) 37 false,
   ⟨false, [], [], .pick 116 (.c (.bool true)) (.t 125), [126], (some 126), none⟩]))
 (.cond (.t 126)
  (.seq (.rg [o1 2 (.lit [.b] [.bool false])])
  .ret)
  .skip))
 (.seq (.rg [o1 127 (.copy 3),
   o1 128 (.copy 8),
   o1 129 (.index 127 (.t 128)),
   o1 130 (.load 127 [(0, 1)] 0 (.t 129) 1 false),
   o1 15 (.copy 130)])
 (.seq (.rg [o1 131 (.copy 3),
   o1 132 (.copy 8),
   o1 133 (.data (.bin .add) [.t 132, .c (.int .i64 (1))]),
   o1 134 (.index 131 (.t 133)),
   o1 135 (.load 131 [(0, 1)] 0 (.t 134) 1 false),
   o1 16 (.copy 135)])
 (.seq (.join [⟨15, [.i .i64], false⟩, ⟨16, [.i .i64], false⟩] 5488074013700895538737305668659557714460672 none (.seq (.rg [⟨true, [], [], .det 1 (.copy 9), [136], (some 136), none⟩,
   o1 137 (.copy 15),
   o3 138 27 [.t 136, .t 137],
   o1 139 (.data .not [.t 138])])
 (.cond (.t 139)
  (.rg [o1 140 (.copy 16),
    o1 141 (.copy 15),
    o1 15 (.copy 140),
    o1 16 (.copy 141)])
  .skip)))
 (.seq (.rg [⟨true, [], [], .det 1 (.copy 9), [143], (some 143), none⟩,
   o1 144 (.copy 15),
   ⟨true, [], [], .det 1 (.copy 10), [145], (some 145), none⟩,
   o1 146 (.copy 16),
   o3 147 28 [.t 143, .t 144, .t 145, .t 146],
   ⟨false, [], [], .det 2 (.copy 147), [142, 147], (some 142), none⟩,
   ⟨false, [], [], .det 2 (.ext 142 0 1), [148, 142], (some 148), none⟩,
   o1 149 (.ext 142 1 1),
   ⟨false, [], [], .det 2 (.copy 148), [17, 148], (some 17), none⟩,
   o1 18 (.copy 149)])
 (.seq (.join [⟨2, [.b], false⟩] 49039857306337034750043403305852093825931280209919739396 none (.rg [o1 150 (.copy 18),
   o1 151 (.copy 150),
   ⟨true, [], [], .det 1 (.copy 17), [152], (some 152), some (1, true)⟩,
   ⟨false, [], [], .call 1 24 [.t 152] .no, [153], (some 153), some (1, true)⟩,
   ⟨false, [], [], .pick 151 (.t 153) (.c (.bool false)), [154], (some 154), none⟩,
   o1 155 (.copy 154),
   ⟨true, [], [], .det 1 (.copy 17), [156], (some 156), some (5, true)⟩,
   ⟨false, [], [], .call 1 29 [.t 156] .no, [157], (some 157), some (5, true)⟩,
   o2 158 (.copy 3) 5 true,
   ⟨false, [], [], .call 1 29 [.t 158] .no, [159], (some 159), some (5, true)⟩,
   ⟨false, [], [], .call 1 26 [.t 157, .t 159] .no, [160], (some 160), some (5, true)⟩,
   ⟨false, [], [], .pick 155 (.t 160) (.c (.bool false)), [161], (some 161), none⟩,
   o1 162 (.copy 161),
   ⟨false, [], [], .det 2 (.copy 17), [163, 17, 156, 152], (some 163), some (12, true)⟩,
   o2 164 (.len 163) 12 true,
   o2 165 (.copy 3) 12 true,
   o2 166 (.len 165) 12 true,
   o2 167 (.data (.bin .eql) [.t 164, .t 166]) 12 true,
   ⟨false, [], [], .pick 162 (.t 167) (.c (.bool false)), [168], (some 168), none⟩,
   o1 169 (.copy 168),
   ⟨true, [], [], .det 1 (.copy 9), [170], (some 170), some (19, true)⟩,
   o2 171 (.copy 15) 19 true,
   ⟨false, [], [], .call 1 27 [.t 170, .t 171] .no, [172], (some 172), some (19, true)⟩,
   ⟨false, [], [], .pick 169 (.t 172) (.c (.bool false)), [173], (some 173), none⟩,
   o1 174 (.copy 173),
   ⟨false, [], [], .det 2 (.copy 10), [175, 10, 145], (some 175), some (24, true)⟩,
   o2 176 (.copy 16) 24 true,
   ⟨false, [], [], .call 1 27 [.t 175, .t 176] .no, [177], (some 177), some (24, true)⟩,
   ⟨false, [], [], .pick 174 (.t 177) (.c (.bool false)), [178], (some 178), none⟩,
   o1 179 (.copy 178),
   ⟨false, [], [], .det 2 (.copy 9), [180, 9, 136, 143, 170], (some 180), some (29, true)⟩,
   o2 181 (.copy 16) 29 true,
   ⟨false, [], [], .call 1 27 [.t 180, .t 181] .no, [182], (some 182), some (29, true)⟩,
   o2 183 (.data .not [.t 182]) 29 true,
   ⟨false, [], [], .pick 179 (.t 183) (.c (.bool false)), [184], (some 184), none⟩,
   o1 2 (.copy 184)]))
 .ret)))))))))))))
def s_lFnSplits : Sig := ⟨[.rd false [.sl (.own none) [.d]]], (.one false [.d])⟩
noncomputable def E_lFnSplits : TEnv := envOf [(17, p_lbig), (22, p_sDrawRightTour), (23, p_iSplitTour), (24, p_iTourOk), (25, p_sDrawPlaces), (26, p_lsameInts), (27, p_lin), (28, p_iJoinTours), (29, p_iVertsOf)]
noncomputable def f_lFnSplits (n : Nat) : List (Int) → Option ((Bool) × Unit) := runFn n E_lFnSplits c_lFnSplits [[.sl [.i .u8]]] [.b] [] [2] .no
noncomputable def g_lFnSplits := f_lFnSplits BIG
noncomputable def p_lFnSplits : TSp := ⟨s_lFnSplits, [[.sl [.i .u8]]], [.b], [], Ou.j .no, g_lFnSplits⟩
theorem k_lFnSplits : chkW PG E_lFnSplits 4 s_lFnSplits (c_lFnSplits.ht 185) .no = some (c_lFnSplits.wc E_lFnSplits, [2]) := by kernel_rfl
theorem ok_lFnSplits : p_lFnSplits.Ok PG 4 := mkOk (env_cons ok_lbig (env_cons ok_sDrawRightTour (env_cons ok_iSplitTour (env_cons ok_iTourOk (env_cons ok_sDrawPlaces (env_cons ok_lsameInts (env_cons ok_lin (env_cons ok_iJoinTours (env_cons ok_iVertsOf (env_nil PG)))))))))) k_lFnSplits (by kernel_rfl)
theorem e_lFnSplits (n : Nat) (a0 : List (Int)) : f_lFnSplits n a0 =
  Option.bind (g_lbig a0) fun r0 =>
  bif r0.1 then
   some (true, ())
  else Option.bind (g_sDrawRightTour a0) fun r1 =>
  bif decide ((r1.1.1.length : Int) < (3 : Int)) then
   Option.bind (g_iSplitTour (r1.1.1, (0 : Int), (1 : Int))) fun r2 =>
   Option.bind (bif !r2.1.2.2 then
     Option.bind (g_iTourOk r1.1.1) fun r3 =>
     some r3.1
    else some false : Option (Bool)) fun x4 =>
   some (x4, ())
  else Option.bind (g_sDrawPlaces a0) fun r5 =>
  bnd r5.1.length (0 : Int) fun n6 =>
  Option.bind r5.1[n6]? fun y7 =>
  bif decide ((IntKind.wrap .i64 ((r1.1.1.length : Int) - (1 : Int))) = 0) then
   none
  else bnd r1.1.1.length (Int.tmod y7 (IntKind.wrap .i64 ((r1.1.1.length : Int) - (1 : Int)))) fun n8 =>
  Option.bind r1.1.1[n8]? fun y9 =>
  bnd r1.1.1.length (IntKind.wrap .i64 ((Int.tmod y7 (IntKind.wrap .i64 ((r1.1.1.length : Int) - (1 : Int)))) + (1 : Int))) fun n10 =>
  Option.bind r1.1.1[n10]? fun y11 =>
  Option.bind (g_iSplitTour (r1.1.1, y9, y11)) fun r12 =>
  bnd r1.1.1.length (IntKind.wrap .i64 ((Int.tmod y7 (IntKind.wrap .i64 ((r1.1.1.length : Int) - (1 : Int)))) + (1 : Int))) fun n13 =>
  Option.bind r1.1.1[n13]? fun y14 =>
  bnd r1.1.1.length (Int.tmod y7 (IntKind.wrap .i64 ((r1.1.1.length : Int) - (1 : Int)))) fun n15 =>
  Option.bind r1.1.1[n15]? fun y16 =>
  Option.bind (g_iSplitTour (r1.1.1, y14, y16)) fun r17 =>
  Option.bind (bif !r12.1.2.2 then
    some true
   else bif !r17.1.2.2 then
    some true
   else Option.bind (g_lsameInts (r12.1.1, r17.1.1)) fun r18 =>
   bif !r18.1 then
    some true
   else Option.bind (g_lsameInts (r12.1.2.1, r17.1.2.1)) fun r19 =>
   bif !r19.1 then
    some true
   else Option.bind (g_iTourOk r12.1.1) fun r20 =>
   bif !r20.1 then
    some true
   else Option.bind (g_iTourOk r12.1.2.1) fun r21 =>
   bif !r21.1 then
    some true
   else bnd r12.1.1.length (0 : Int) fun n22 =>
   Option.bind r12.1.1[n22]? fun y23 =>
   bnd r1.1.1.length (0 : Int) fun n24 =>
   Option.bind r1.1.1[n24]? fun y25 =>
   bif !decide (y23 = y25) then
    some true
   else some (!decide ((IntKind.wrap .i64 ((IntKind.wrap .i64 ((r12.1.1.length : Int) + (r12.1.2.1.length : Int))) + (1 : Int))) = (r1.1.1.length : Int))) : Option (Bool)) fun x26 =>
  bif x26 then
   some (false, ())
  else bnd r1.1.1.length (Int.tmod y7 (IntKind.wrap .i64 ((r1.1.1.length : Int) - (1 : Int)))) fun n27 =>
  Option.bind r1.1.1[n27]? fun y28 =>
  bnd r1.1.1.length (IntKind.wrap .i64 ((Int.tmod y7 (IntKind.wrap .i64 ((r1.1.1.length : Int) - (1 : Int)))) + (1 : Int))) fun n29 =>
  Option.bind r1.1.1[n29]? fun y30 =>
  Option.bind (Option.bind (g_lin (r12.1.1, y28)) fun r31 =>
   bif !r31.1 then
    some (y30, y28)
   else some (y28, y30) : Option (Int × Int)) fun x32 =>
  Option.bind (g_iJoinTours (r12.1.1, x32.1, r12.1.2.1, x32.2)) fun r33 =>
  Option.bind (bif r33.1.2 then
    Option.bind (g_iTourOk r33.1.1) fun r34 =>
    bif r34.1 then
     Option.bind (g_iVertsOf r33.1.1) fun r35 =>
     Option.bind (g_iVertsOf r1.1.1) fun r36 =>
     Option.bind (g_lsameInts (r35.1, r36.1)) fun r37 =>
     bif r37.1 then
      bif decide ((r33.1.1.length : Int) = (r1.1.1.length : Int)) then
       Option.bind (g_lin (r12.1.1, x32.1)) fun r38 =>
       bif r38.1 then
        Option.bind (g_lin (r12.1.2.1, x32.2)) fun r39 =>
        bif r39.1 then
         Option.bind (g_lin (r12.1.1, x32.2)) fun r40 =>
         some !r40.1
        else some false
       else some false
      else some false
     else some false
    else some false
   else some false : Option (Bool)) fun x41 =>
  some (x41, ()) := by kernel_rfl
/- impl.saidAt -/
def c_isaidAt : TC :=
 (.seq (.rg [o1 4 (.lit [.i .i64] [.int .i64 (0)])])
 (.seq (.join [] 1048560 (some [⟨4, [.i .i64], false⟩]) (.seq (.rg [o1 7 (.copy 0),
   o1 8 (.len 7),
   o1 9 (.lit [.i .i64] [.int .i64 (0)])])
 (.block 0 (.loop [⟨9, [.i .i64], false⟩] 1048176
  (.seq (.rg [o1 10 (.data (.bin .lss) [.t 9, .t 8])])
  (.seq (.cond (.t 10)
   .skip
   (.exit 0))
  (.seq (.block 1 (.seq (.rg [o1 11 (.copy 9),
    o1 12 (.index 7 (.t 9)),
    o1 13 (.load 7 [(0, 6)] 0 (.t 12) 6 false),
    ⟨false, [], [], .det 2 (.a (.c [.i .i64, .i .i64, .i .i64, .i .i64, .i .i64, .i .i64] [.int .i64 (0), .int .i64 (0), .int .i64 (0), .int .i64 (0), .int .i64 (0), .int .i64 (0)])), [6, 1000000001], (some 6), none⟩,
    o1 5 (.copy 11),
    o4 1 [6] (.store 6 [] 0 .nil (.t 13))])
  (.seq (.rg [o1 14 (.idx .nil),
    o1 15 (.load 6 [] 0 (.t 14) 1 false),
    o1 16 (.copy 1),
    o1 17 (.data (.bin .eql) [.t 15, .t 16])])
  (.cond (.t 17)
   (.seq (.rg [o1 18 (.copy 5),
     o1 4 (.copy 18)])
   .ret)
   .skip))))
  (.rg [o1 19 (.data (.bin .add) [.t 9, .c (.int .i64 (1))]),
    o1 9 (.copy 19)]))))))))
 (.seq (.rg [o1 4 (.lit [.i .i64] [.int .i64 (-1)])])
 .ret)))
def s_isaidAt : Sig := ⟨[.rd false [.sl (.own none) [.d, .d, .d, .d, .d, .d]], .rd false [.d]], (.one false [.d])⟩
noncomputable def E_isaidAt : TEnv := envOf []
noncomputable def f_isaidAt (n : Nat) : (List (Int × Int × Int × Int × Int × Int)) × Int → Option ((Int) × Unit) := runFn n E_isaidAt c_isaidAt [[.sl [.i .i64, .i .i64, .i .i64, .i .i64, .i .i64, .i .i64]], [.i .i64]] [.i .i64] [] [4] .no
noncomputable def g_isaidAt := f_isaidAt BIG
noncomputable def p_isaidAt : TSp := ⟨s_isaidAt, [[.sl [.i .i64, .i .i64, .i .i64, .i .i64, .i .i64, .i .i64]], [.i .i64]], [.i .i64], [], Ou.j .no, g_isaidAt⟩
theorem k_isaidAt : chkW PG E_isaidAt 121 s_isaidAt (c_isaidAt.ht 20) .no = some (c_isaidAt.wc E_isaidAt, [4]) := by kernel_rfl
theorem ok_isaidAt : p_isaidAt.Ok PG 121 := mkOk (env_nil PG) k_isaidAt (by kernel_rfl)
theorem e_isaidAt (n : Nat) (a0 : List (Int × Int × Int × Int × Int × Int)) (a1 : Int) : f_isaidAt n (a0, a1) =
  Option.bind (loopT n (X := Int) (B := (Unit) ⊕ (Int)) (fun self1 x0 =>
    bif decide (x0 < (a0.length : Int)) then
     bnd a0.length x0 fun n2 =>
     Option.bind a0[n2]? fun y3 =>
     bif decide (y3.1 = a1) then
      some (Sum.inr x0)
     else self1 (IntKind.wrap .i64 (x0 + (1 : Int)))
    else some (Sum.inl ())) (0 : Int) : Option ((Unit) ⊕ (Int))) fun y => match y with
  | .inl x4 =>
   some ((-1 : Int), ())
  | .inr x4 =>
   some (x4, ()) := by kernel_rfl
/- spec.l05SameInts -/
def c_sl05SameInts : TC :=
 (.seq (.rg [o1 4 (.lit [.b] [.bool false])])
 (.seq (.seq (.rg [o1 6 (.copy 0),
   o1 7 (.len 6),
   o1 8 (.copy 1),
   o1 9 (.len 8),
   o1 10 (.data (.bin .neq) [.t 7, .t 9])])
 (.cond (.t 10)
  (.seq (.rg [o1 4 (.lit [.b] [.bool false])])
  .ret)
  .skip))
 (.seq (.join [] 67106864 (some [⟨4, [.b], false⟩]) (.seq (.rg [o1 5 (.lit [.i .i64] [.int .i64 (0)])])
 (.block 0 (.loop [⟨5, [.i .i64], false⟩] 67106864
  (.seq (.seq (.rg [o1 11 (.copy 5),
    o1 12 (.copy 0),
    o1 13 (.len 12),
    o1 14 (.data (.bin .lss) [.t 11, .t 13])])
  (.cond (.t 14)
   .skip
   (.exit 0)))
  (.seq (.block 1 (.seq (.rg [o1 17 (.copy 0),
    o1 18 (.copy 5),
    o1 19 (.index 17 (.t 18)),
    o1 20 (.load 17 [(0, 1)] 0 (.t 19) 1 false),
    o1 21 (.copy 1),
    o1 22 (.copy 5),
    o1 23 (.index 21 (.t 22)),
    o1 24 (.load 21 [(0, 1)] 0 (.t 23) 1 false),
    o1 25 (.data (.bin .neq) [.t 20, .t 24])])
  (.cond (.t 25)
   (.seq (.rg [o1 4 (.lit [.b] [.bool false])])
   .ret)
   .skip)))
  (.rg [o1 15 (.copy 5),
    o1 16 (.data (.bin .add) [.t 15, .c (.int .i64 (1))]),
    o1 5 (.copy 16)])))))))
 (.seq (.rg [o1 4 (.lit [.b] [.bool true])])
 .ret))))
def s_sl05SameInts : Sig := ⟨[.rd false [.sl (.own none) [.d]], .rd false [.sl (.own none) [.d]]], (.one false [.d])⟩
noncomputable def E_sl05SameInts : TEnv := envOf []
noncomputable def f_sl05SameInts (n : Nat) : List (Int) × List (Int) → Option ((Bool) × Unit) := runFn n E_sl05SameInts c_sl05SameInts [[.sl [.i .i64]], [.sl [.i .i64]]] [.b] [] [4] .no
noncomputable def g_sl05SameInts := f_sl05SameInts BIG
noncomputable def p_sl05SameInts : TSp := ⟨s_sl05SameInts, [[.sl [.i .i64]], [.sl [.i .i64]]], [.b], [], Ou.j .no, g_sl05SameInts⟩
theorem k_sl05SameInts : chkW PG E_sl05SameInts 131 s_sl05SameInts (c_sl05SameInts.ht 26) .no = some (c_sl05SameInts.wc E_sl05SameInts, [4]) := by kernel_rfl
theorem ok_sl05SameInts : p_sl05SameInts.Ok PG 131 := mkOk (env_nil PG) k_sl05SameInts (by kernel_rfl)
theorem e_sl05SameInts (n : Nat) (a0 : List (Int)) (a1 : List (Int)) : f_sl05SameInts n (a0, a1) =
  bif !decide ((a0.length : Int) = (a1.length : Int)) then
   some (false, ())
  else Option.bind (loopT n (X := Int) (B := (Unit) ⊕ (Bool)) (fun self1 x0 =>
    bif decide (x0 < (a0.length : Int)) then
     bnd a0.length x0 fun n2 =>
     Option.bind a0[n2]? fun y3 =>
     bnd a1.length x0 fun n4 =>
     Option.bind a1[n4]? fun y5 =>
     bif !decide (y3 = y5) then
      some (Sum.inr false)
     else self1 (IntKind.wrap .i64 (x0 + (1 : Int)))
    else some (Sum.inl ())) (0 : Int) : Option ((Unit) ⊕ (Bool))) fun y => match y with
  | .inl x6 =>
   some (true, ())
  | .inr x6 =>
   some (x6, ()) := by kernel_rfl
end Go.Fw
