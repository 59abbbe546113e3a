/- The given functions, as what they compute; each is shown to be what the code does. No conditions. -/
import Derived.Test.YtjjfihpihnifcaaG5
import Derived.Test.YtjjfihpihnifcaaProg
set_option linter.unusedVariables false
set_option linter.unusedSimpArgs false
namespace Go.Fw
noncomputable abbrev PG := Go.Proofs.Try.prog
def o2 (d : Nat) (e : ED) (j : Nat) (b : Bool) : TO := ⟨false, [], [], .det 1 e, [d], some d, some (j, b)⟩
def o3 (d : Nat) (K : FuncId) (gets : List OY) : TO := ⟨false, [], [], .call 1 K gets .no, [d], some d, none⟩
def o4 (n : Nat) (ds : List Nat) (e : ED) : TO := ⟨false, [], [], .det n e, ds, none, none⟩
end Go.Fw
namespace Go.Fw
/- laws.big -/
def c_lbig : TC :=
 (.seq (.rg [o1 2 (.lit [.b] [.bool false])])
 (.seq (.rg [o1 3 (.copy 0),
   o1 4 (.len 3),
   o1 5 (.data (.bin .gtr) [.t 4, .c (.int .i64 (1048576))]),
   o1 2 (.copy 5)])
 .ret))
def s_lbig : Sig := ⟨[.rd false [.sl (.own none) [.d]]], (.one false [.d])⟩
noncomputable def E_lbig : TEnv := envOf []
noncomputable def f_lbig (n : Nat) : List (Int) → Option ((Bool) × Unit) := runFn n E_lbig c_lbig [[.sl [.i .u8]]] [.b] [] [2] .no
noncomputable def g_lbig := f_lbig BIG
noncomputable def p_lbig : TSp := ⟨s_lbig, [[.sl [.i .u8]]], [.b], [], Ou.j .no, g_lbig⟩
theorem k_lbig : chkW PG E_lbig 7 s_lbig (c_lbig.ht 6) .no = some (c_lbig.wc E_lbig, [2]) := by kernel_rfl
theorem ok_lbig : p_lbig.Ok PG 7 := mkOk (env_nil PG) k_lbig (by kernel_rfl)
theorem e_lbig (n : Nat) (a0 : List (Int)) : f_lbig n a0 =
  some (decide ((1048576 : Int) < (a0.length : Int)), ()) := by kernel_rfl
/- spec.l01New -/
def c_sl01New : TC :=
 (.seq (.rg [o1 2 (.nl)])
 (.seq (.rg [o1 5 (.copy 0),
   o1 6 (.len 5),
   o1 7 (.data (.bin .add) [.c (.int .i64 (13501)), .t 6]),
   o1 3 (.copy 7)])
 (.seq (.join [⟨3, [.i .i64], false⟩] 268435224 none (.seq (.rg [o1 4 (.lit [.i .i64] [.int .i64 (0)])])
 (.block 0 (.loop [⟨3, [.i .i64], false⟩, ⟨4, [.i .i64], false⟩] 268435224
  (.seq (.seq (.join [⟨15, [.b], false⟩] 65280 none (.rg [o1 8 (.copy 4),
    o1 9 (.copy 0),
    o1 10 (.len 9),
    o1 11 (.data (.bin .lss) [.t 8, .t 10]),
    o1 12 (.copy 11),
    o2 13 (.copy 4) 4 true,
    o2 14 (.data (.bin .lss) [.t 13, .c (.int .i64 (4000))]) 4 true,
    ⟨false, [], [], .pick 12 (.t 14) (.c (.bool false)), [15], (some 15), none⟩]))
  (.cond (.t 15)
   .skip
   (.exit 0)))
  (.seq (.block 1 (.rg [o1 18 (.copy 3),
    o1 19 (.data (.bin .mul) [.t 18, .c (.int .i64 (131))]),
    o1 20 (.copy 0),
    o1 21 (.copy 4),
    o1 22 (.index 20 (.t 21)),
    o1 23 (.load 20 [(0, 1)] 0 (.t 22) 1 false),
    o1 24 (.data (.conv .i64) [.t 23]),
    o1 25 (.data (.bin .add) [.t 19, .t 24]),
    o1 26 (.data (.bin .add) [.t 25, .c (.int .i64 (7))]),
    o1 27 (.data (.bin .and) [.t 26, .c (.int .i64 (1073741823))]),
    o1 3 (.copy 27)]))
  (.rg [o1 16 (.copy 4),
    o1 17 (.data (.bin .add) [.t 16, .c (.int .i64 (1))]),
    o1 4 (.copy 17)])))))))
 (.seq (.rg [o1 28 (.copy 0),
   o1 29 (.copy 3),
   o1 30 (.build [.sl [.i .u8], .i .i64, .i .i64] [(0, .t 28), (2, .t 29)]),
   o1 31 (.a (.t 30)),
   ⟨true, [], [], .det 2 (.copy 31), [2, 31], (some 2), none⟩])
 .ret))))
def s_sl01New : Sig := ⟨[.rd false [.sl (.own none) [.d]]], (.bx [.sl (.ro [0]) [.d], .d, .d])⟩
noncomputable def E_sl01New : TEnv := envOf []
noncomputable def f_sl01New (n : Nat) : List (Int) → Option ((List (Int) × Int × Int) × Unit) := runFn n E_sl01New c_sl01New [[.sl [.i .u8]]] [.sl [.i .u8], .i .i64, .i .i64] [] [2] .no
noncomputable def g_sl01New := f_sl01New BIG
noncomputable def p_sl01New : TSp := ⟨s_sl01New, [[.sl [.i .u8]]], [.sl [.i .u8], .i .i64, .i .i64], [], Ou.j .no, g_sl01New⟩
theorem k_sl01New : chkW PG E_sl01New 39 s_sl01New (c_sl01New.ht 32) .no = some (c_sl01New.wc E_sl01New, [2]) := by kernel_rfl
theorem ok_sl01New : p_sl01New.Ok PG 39 := mkOk (env_nil PG) k_sl01New (by kernel_rfl)
theorem e_sl01New (n : Nat) (a0 : List (Int)) : f_sl01New n a0 =
  Option.bind (loopT n (X := Int × Int) (B := Int) (fun self1 x0 =>
    Option.bind (bif decide (x0.2 < (a0.length : Int)) then
      some (decide (x0.2 < (4000 : Int)))
     else some false : Option (Bool)) fun x2 =>
    bif x2 then
     bnd a0.length x0.2 fun n3 =>
     Option.bind a0[n3]? fun y4 =>
     self1 (bits .and .i64 (IntKind.wrap .i64 ((IntKind.wrap .i64 ((IntKind.wrap .i64 (x0.1 * (131 : Int))) + (IntKind.wrap .i64 (y4)))) + (7 : Int))) (1073741823 : Int), IntKind.wrap .i64 (x0.2 + (1 : Int)))
    else some x0.1) (IntKind.wrap .i64 ((13501 : Int) + (a0.length : Int)), (0 : Int)) : Option (Int)) fun x5 =>
  some ((a0, (0 : Int), x5), ()) := by kernel_rfl
/- spec.l01Byte -/
def c_sl01Byte : TC :=
 (.seq (.rg [o1 2 (.lit [.i .i64] [.int .i64 (0)])])
 (.seq (.rg [o1 4 (.p0),
   o1 5 (.p0),
   o1 6 (.same 5),
   o1 7 (.idx (.t 6)),
   o1 8 (.load 0 [] 2 (.t 7) 1 false),
   o1 9 (.data (.bin .mul) [.t 8, .c (.int .i64 (6364136223846793005))]),
   o1 10 (.data (.bin .add) [.t 9, .c (.int .i64 (1442695040888963407))]),
   o1 11 (.same 4),
   o1 12 (.idx (.t 11)),
   o4 1 [0] (.store 0 [] 2 (.t 12) (.t 10))])
 (.seq (.rg [o1 13 (.p0),
   o1 14 (.same 13),
   o1 15 (.idx (.t 14)),
   o1 16 (.load 0 [] 2 (.t 15) 1 false),
   o1 17 (.data (.bin .shr) [.t 16, .c (.int .u64 (33))]),
   o1 18 (.p0),
   o1 19 (.same 18),
   o1 20 (.idx (.t 19)),
   o1 21 (.load 0 [] 2 (.t 20) 1 false),
   o1 22 (.data (.bin .shr) [.t 21, .c (.int .u64 (45))]),
   o1 23 (.data (.bin .xor) [.t 17, .t 22]),
   o1 24 (.data (.bin .and) [.t 23, .c (.int .i64 (255))]),
   o1 3 (.copy 24)])
 (.seq (.join [⟨3, [.i .i64], false⟩, ⟨0, [.sl [.i .u8], .i .i64, .i .i64], false⟩] 144115188042301449 none (.seq (.rg [o1 25 (.p0),
   o1 26 (.same 25),
   o1 27 (.idx (.t 26)),
   o1 28 (.load 0 [] 1 (.t 27) 1 false),
   o1 29 (.p0),
   o1 30 (.same 29),
   o1 31 (.idx (.t 30)),
   o1 32 (.load 0 [] 0 (.t 31) 1 false),
   o1 33 (.len 32),
   o1 34 (.data (.bin .lss) [.t 28, .t 33])])
 (.cond (.t 34)
  (.seq (.rg [o1 35 (.copy 3),
    o1 36 (.p0),
    o1 37 (.same 36),
    o1 38 (.idx (.t 37)),
    o1 39 (.load 0 [] 0 (.t 38) 1 false),
    o1 40 (.p0),
    o1 41 (.same 40),
    o1 42 (.idx (.t 41)),
    o1 43 (.load 0 [] 1 (.t 42) 1 false),
    o1 44 (.index 39 (.t 43)),
    o1 45 (.load 39 [(0, 1)] 0 (.t 44) 1 false),
    o1 46 (.data (.conv .i64) [.t 45]),
    o1 47 (.data (.bin .add) [.t 35, .t 46]),
    o1 48 (.data (.bin .and) [.t 47, .c (.int .i64 (255))]),
    o1 3 (.copy 48)])
  (.rg [o1 49 (.p0),
    o1 50 (.p0),
    o1 51 (.same 50),
    o1 52 (.idx (.t 51)),
    o1 53 (.load 0 [] 1 (.t 52) 1 false),
    o1 54 (.data (.bin .add) [.t 53, .c (.int .i64 (1))]),
    o1 55 (.same 49),
    o1 56 (.idx (.t 55)),
    o4 1 [0] (.store 0 [] 1 (.t 56) (.t 54))]))
  .skip)))
 (.seq (.rg [o1 57 (.copy 3),
   o1 2 (.copy 57)])
 .ret)))))
def s_sl01Byte : Sig := ⟨[.mp [.sl (.ro []) [.d], .d, .d]], (.one false [.d])⟩
noncomputable def E_sl01Byte : TEnv := envOf []
noncomputable def f_sl01Byte (n : Nat) : (List (Int) × Int × Int) → Option ((Int) × List (Int) × Int × Int) := runFn n E_sl01Byte c_sl01Byte [[.sl [.i .u8], .i .i64, .i .i64]] [.i .i64] [.sl [.i .u8], .i .i64, .i .i64] [2] (.mp 0)
noncomputable def g_sl01Byte := f_sl01Byte BIG
noncomputable def p_sl01Byte : TSp := ⟨s_sl01Byte, [[.sl [.i .u8], .i .i64, .i .i64]], [.i .i64], [.sl [.i .u8], .i .i64, .i .i64], Ou.j (.mp 0), g_sl01Byte⟩
theorem k_sl01Byte : chkW PG E_sl01Byte 100 s_sl01Byte (c_sl01Byte.ht 58) (.mp 0) = some (c_sl01Byte.wc E_sl01Byte, [2]) := by kernel_rfl
theorem ok_sl01Byte : p_sl01Byte.Ok PG 100 := mkOk (env_nil PG) k_sl01Byte (by kernel_rfl)
theorem e_sl01Byte (n : Nat) (a0 : List (Int) × Int × Int) : f_sl01Byte n a0 =
  bif decide ((33 : Int) < 0) then
   none
  else bif decide ((45 : Int) < 0) then
   none
  else Option.bind (bif decide (a0.2.1 < (a0.1.length : Int)) then
    bnd a0.1.length a0.2.1 fun n0 =>
    Option.bind a0.1[n0]? fun y1 =>
    some (bits .and .i64 (IntKind.wrap .i64 ((bits .and .i64 (bits .xor .i64 (Int.fdiv (IntKind.wrap .i64 ((IntKind.wrap .i64 (a0.2.2 * (6364136223846793005 : Int))) + (1442695040888963407 : Int))) (2 ^ (Nat.min (Int.toNat (33 : Int)) (IntKind.bits .i64)))) (Int.fdiv (IntKind.wrap .i64 ((IntKind.wrap .i64 (a0.2.2 * (6364136223846793005 : Int))) + (1442695040888963407 : Int))) (2 ^ (Nat.min (Int.toNat (45 : Int)) (IntKind.bits .i64))))) (255 : Int)) + (IntKind.wrap .i64 (y1)))) (255 : Int), (a0.1, IntKind.wrap .i64 (a0.2.1 + (1 : Int)), IntKind.wrap .i64 ((IntKind.wrap .i64 (a0.2.2 * (6364136223846793005 : Int))) + (1442695040888963407 : Int))))
   else some (bits .and .i64 (bits .xor .i64 (Int.fdiv (IntKind.wrap .i64 ((IntKind.wrap .i64 (a0.2.2 * (6364136223846793005 : Int))) + (1442695040888963407 : Int))) (2 ^ (Nat.min (Int.toNat (33 : Int)) (IntKind.bits .i64)))) (Int.fdiv (IntKind.wrap .i64 ((IntKind.wrap .i64 (a0.2.2 * (6364136223846793005 : Int))) + (1442695040888963407 : Int))) (2 ^ (Nat.min (Int.toNat (45 : Int)) (IntKind.bits .i64))))) (255 : Int), (a0.1, a0.2.1, IntKind.wrap .i64 ((IntKind.wrap .i64 (a0.2.2 * (6364136223846793005 : Int))) + (1442695040888963407 : Int)))) : Option (Int × (List (Int) × Int × Int))) fun x2 =>
  some (x2.1, x2.2) := by kernel_rfl
/- spec.l01Below -/
def c_sl01Below : TC :=
 (.seq (.rg [o1 4 (.lit [.i .i64] [.int .i64 (0)])])
 (.seq (.seq (.rg [o1 9 (.copy 1),
   o1 10 (.data (.bin .leq) [.t 9, .c (.int .i64 (0))])])
 (.cond (.t 10)
  (.seq (.rg [o1 4 (.lit [.i .i64] [.int .i64 (0)])])
  .ret)
  .skip))
 (.seq (.seq (.rg [o1 11 (.copy 1),
   o1 12 (.data (.bin .leq) [.t 11, .c (.int .i64 (256))])])
 (.cond (.t 12)
  (.seq (.rg [o1 13 (.p0),
    ⟨false, [], [], .call 2 100 [.t 0] (.mp 0), [14, 0], (some 14), none⟩,
    o1 15 (.copy 1),
    o1 16 (.data (.bin .rem) [.t 14, .t 15]),
    o1 4 (.copy 16)])
  .ret)
  .skip))
 (.seq (.rg [o1 17 (.p0),
   ⟨false, [], [], .call 2 100 [.t 0] (.mp 0), [18, 0], (some 18), none⟩,
   o1 5 (.copy 18)])
 (.seq (.rg [o1 19 (.p0),
   ⟨false, [], [], .call 2 100 [.t 0] (.mp 0), [20, 0], (some 20), none⟩,
   o1 6 (.copy 20)])
 (.seq (.rg [o1 21 (.p0),
   ⟨false, [], [], .call 2 100 [.t 0] (.mp 0), [22, 0], (some 22), none⟩,
   o1 7 (.copy 22)])
 (.seq (.rg [o1 23 (.p0),
   ⟨false, [], [], .call 2 100 [.t 0] (.mp 0), [24, 0], (some 24), none⟩,
   o1 8 (.copy 24)])
 (.seq (.rg [o1 25 (.copy 5),
   o1 26 (.data (.bin .mul) [.t 25, .c (.int .i64 (16777216))]),
   o1 27 (.copy 6),
   o1 28 (.data (.bin .mul) [.t 27, .c (.int .i64 (65536))]),
   o1 29 (.data (.bin .add) [.t 26, .t 28]),
   o1 30 (.copy 7),
   o1 31 (.data (.bin .mul) [.t 30, .c (.int .i64 (256))]),
   o1 32 (.data (.bin .add) [.t 29, .t 31]),
   o1 33 (.copy 8),
   o1 34 (.data (.bin .add) [.t 32, .t 33]),
   o1 35 (.copy 1),
   o1 36 (.data (.bin .rem) [.t 34, .t 35]),
   o1 4 (.copy 36)])
 .ret))))))))
def s_sl01Below : Sig := ⟨[.mp [.sl (.ro []) [.d], .d, .d], .rd false [.d]], (.one false [.d])⟩
noncomputable def E_sl01Below : TEnv := envOf [(100, p_sl01Byte)]
noncomputable def f_sl01Below (n : Nat) : (List (Int) × Int × Int) × Int → Option ((Int) × List (Int) × Int × Int) := runFn n E_sl01Below c_sl01Below [[.sl [.i .u8], .i .i64, .i .i64], [.i .i64]] [.i .i64] [.sl [.i .u8], .i .i64, .i .i64] [4] (.mp 0)
noncomputable def g_sl01Below := f_sl01Below BIG
noncomputable def p_sl01Below : TSp := ⟨s_sl01Below, [[.sl [.i .u8], .i .i64, .i .i64], [.i .i64]], [.i .i64], [.sl [.i .u8], .i .i64, .i .i64], Ou.j (.mp 0), g_sl01Below⟩
theorem k_sl01Below : chkW PG E_sl01Below 41 s_sl01Below (c_sl01Below.ht 37) (.mp 0) = some (c_sl01Below.wc E_sl01Below, [4]) := by kernel_rfl
theorem ok_sl01Below : p_sl01Below.Ok PG 41 := mkOk (env_cons ok_sl01Byte (env_nil PG)) k_sl01Below (by kernel_rfl)
theorem e_sl01Below (n : Nat) (a0 : List (Int) × Int × Int) (a1 : Int) : f_sl01Below n (a0, a1) =
  bif decide (a1 ≤ (0 : Int)) then
   some ((0 : Int), a0)
  else bif decide (a1 ≤ (256 : Int)) then
   Option.bind (g_sl01Byte a0) fun r0 =>
   bif decide (a1 = 0) then
    none
   else some (Int.tmod r0.1 a1, r0.2)
  else Option.bind (g_sl01Byte a0) fun r1 =>
  Option.bind (g_sl01Byte r1.2) fun r2 =>
  Option.bind (g_sl01Byte r2.2) fun r3 =>
  Option.bind (g_sl01Byte r3.2) fun r4 =>
  bif decide (a1 = 0) then
   none
  else some (Int.tmod (IntKind.wrap .i64 ((IntKind.wrap .i64 ((IntKind.wrap .i64 ((IntKind.wrap .i64 (r1.1 * (16777216 : Int))) + (IntKind.wrap .i64 (r2.1 * (65536 : Int))))) + (IntKind.wrap .i64 (r3.1 * (256 : Int))))) + r4.1)) a1, r4.2) := by kernel_rfl
/- spec.l01Once -/
def c_sl01Once : TC :=
 (.seq (.rg [o1 4 (.lit [.b] [.bool false])])
 (.seq (.rg [o1 5 (.p0),
   o1 6 (.copy 1),
   ⟨false, [], [], .call 2 41 [.t 0, .t 6] (.mp 0), [7, 0], (some 7), none⟩,
   o1 8 (.data (.bin .eql) [.t 7, .c (.int .i64 (0))]),
   o1 4 (.copy 8)])
 .ret))
def s_sl01Once : Sig := ⟨[.mp [.sl (.ro []) [.d], .d, .d], .rd false [.d]], (.one false [.d])⟩
noncomputable def E_sl01Once : TEnv := envOf [(41, p_sl01Below)]
noncomputable def f_sl01Once (n : Nat) : (List (Int) × Int × Int) × Int → Option ((Bool) × List (Int) × Int × Int) := runFn n E_sl01Once c_sl01Once [[.sl [.i .u8], .i .i64, .i .i64], [.i .i64]] [.b] [.sl [.i .u8], .i .i64, .i .i64] [4] (.mp 0)
noncomputable def g_sl01Once := f_sl01Once BIG
noncomputable def p_sl01Once : TSp := ⟨s_sl01Once, [[.sl [.i .u8], .i .i64, .i .i64], [.i .i64]], [.b], [.sl [.i .u8], .i .i64, .i .i64], Ou.j (.mp 0), g_sl01Once⟩
theorem k_sl01Once : chkW PG E_sl01Once 52 s_sl01Once (c_sl01Once.ht 9) (.mp 0) = some (c_sl01Once.wc E_sl01Once, [4]) := by kernel_rfl
theorem ok_sl01Once : p_sl01Once.Ok PG 52 := mkOk (env_cons ok_sl01Below (env_nil PG)) k_sl01Once (by kernel_rfl)
theorem e_sl01Once (n : Nat) (a0 : List (Int) × Int × Int) (a1 : Int) : f_sl01Once n (a0, a1) =
  Option.bind (g_sl01Below (a0, a1)) fun r0 =>
  some (decide (r0.1 = (0 : Int)), r0.2) := by kernel_rfl
/- spec.l05Less -/
def c_sl05Less : TC :=
 (.seq (.rg [o1 2 (.a (.t 0)),
   o1 3 (.a (.t 1)),
   o1 4 (.lit [.b] [.bool false])])
 (.seq (.join [⟨4, [.b], false⟩] 16777200 none (.rg [o1 5 (.idx .nil),
   o1 6 (.load 2 [] 0 (.t 5) 1 false),
   o1 7 (.idx .nil),
   o1 8 (.load 3 [] 0 (.t 7) 1 false),
   o1 9 (.data (.bin .lss) [.t 6, .t 8]),
   o1 10 (.copy 9),
   o2 11 (.idx .nil) 5 false,
   o2 12 (.load 2 [] 0 (.t 11) 1 false) 5 false,
   o2 13 (.idx .nil) 5 false,
   o2 14 (.load 3 [] 0 (.t 13) 1 false) 5 false,
   o2 15 (.data (.bin .eql) [.t 12, .t 14]) 5 false,
   o2 16 (.copy 15) 5 false,
   o2 17 (.idx .nil) 11 true,
   o2 18 (.load 2 [] 1 (.t 17) 1 false) 11 true,
   o2 19 (.idx .nil) 11 true,
   o2 20 (.load 3 [] 1 (.t 19) 1 false) 11 true,
   o2 21 (.data (.bin .lss) [.t 18, .t 20]) 11 true,
   ⟨false, [], [], .pick 16 (.t 21) (.c (.bool false)), [22], (some 22), some (5, false)⟩,
   ⟨false, [], [], .pick 10 (.c (.bool true)) (.t 22), [23], (some 23), none⟩,
   o1 4 (.copy 23)]))
 .ret))
def s_sl05Less : Sig := ⟨[.rd true [.d, .d], .rd true [.d, .d]], (.one false [.d])⟩
noncomputable def E_sl05Less : TEnv := envOf []
noncomputable def f_sl05Less (n : Nat) : (Int × Int) × (Int × Int) → Option ((Bool) × Unit) := runFn n E_sl05Less c_sl05Less [[.i .i64, .i .i64], [.i .i64, .i .i64]] [.b] [] [4] .no
noncomputable def g_sl05Less := f_sl05Less BIG
noncomputable def p_sl05Less : TSp := ⟨s_sl05Less, [[.i .i64, .i .i64], [.i .i64, .i .i64]], [.b], [], Ou.j .no, g_sl05Less⟩
theorem k_sl05Less : chkW PG E_sl05Less 116 s_sl05Less (c_sl05Less.ht 24) .no = some (c_sl05Less.wc E_sl05Less, [4]) := by kernel_rfl
theorem ok_sl05Less : p_sl05Less.Ok PG 116 := mkOk (env_nil PG) k_sl05Less (by kernel_rfl)
theorem e_sl05Less (n : Nat) (a0 : Int × Int) (a1 : Int × Int) : f_sl05Less n (a0, a1) =
  Option.bind (bif decide (a0.1 < a1.1) then
    some true
   else bif decide (a0.1 = a1.1) then
    some (decide (a0.2 < a1.2))
   else some false : Option (Bool)) fun x0 =>
  some (x0, ()) := by kernel_rfl
/- spec.l05Put -/
def c_sl05Put : TC :=
 (.seq (.rg [o1 3 (.a (.t 1)),
   o1 4 (.lit [.sl [.i .i64, .i .i64]] [.slice none 0 0])])
 (.seq (.rg [o1 8 (.sli [.i .i64, .i .i64] []),
   ⟨false, [], [], .det 2 (.copy 8), [5, 8], (some 5), none⟩])
 (.seq (.join [⟨5, [.sl [.i .i64, .i .i64]], false⟩] 268435040 none (.seq (.rg [o1 6 (.lit [.i .i64] [.int .i64 (0)])])
 (.block 0 (.loop [⟨5, [.sl [.i .i64, .i .i64]], false⟩, ⟨6, [.i .i64], false⟩] 268435040
  (.seq (.seq (.rg [o1 9 (.copy 6),
    o1 10 (.copy 0),
    o1 11 (.len 10),
    o1 12 (.data (.bin .lss) [.t 9, .t 11])])
  (.cond (.t 12)
   .skip
   (.exit 0)))
  (.seq (.join [⟨5, [.sl [.i .i64, .i .i64]], false⟩] 268402720 none (.block 1 (.seq (.rg [o1 15 (.copy 0),
    o1 16 (.copy 6),
    o1 17 (.index 15 (.t 16)),
    o1 18 (.load 15 [(0, 2)] 0 (.t 17) 2 false),
    o1 19 (.load 3 [] 0 .nil 2 false),
    o3 20 116 [.t 18, .t 19]])
  (.cond (.t 20)
   (.rg [⟨false, [], [], .det 2 (.copy 5), [21, 5], (some 21), none⟩,
     o1 22 (.copy 0),
     o1 23 (.copy 6),
     o1 24 (.index 22 (.t 23)),
     o1 25 (.load 22 [(0, 2)] 0 (.t 24) 2 false),
     o1 26 (.sli [.i .i64, .i .i64] [.t 25]),
     ⟨false, [], [], .det 2 (.app (some 21) 26), [27, 21], (some 27), none⟩,
     ⟨false, [], [], .det 2 (.copy 27), [5, 27], (some 5), none⟩])
   .skip))))
  (.rg [o1 13 (.copy 6),
    o1 14 (.data (.bin .add) [.t 13, .c (.int .i64 (1))]),
    o1 6 (.copy 14)])))))))
 (.seq (.rg [⟨false, [], [], .det 2 (.copy 5), [28, 5], (some 28), none⟩,
   o1 29 (.load 3 [] 0 .nil 2 false),
   o1 30 (.sli [.i .i64, .i .i64] [.t 29]),
   ⟨false, [], [], .det 2 (.app (some 28) 30), [31, 28], (some 31), none⟩,
   ⟨false, [], [], .det 2 (.copy 31), [5, 31], (some 5), none⟩])
 (.seq (.join [⟨5, [.sl [.i .i64, .i .i64]], false⟩] 2251795518718112 none (.seq (.rg [o1 7 (.lit [.i .i64] [.int .i64 (0)])])
 (.block 2 (.loop [⟨5, [.sl [.i .i64, .i .i64]], false⟩, ⟨7, [.i .i64], false⟩] 2251795518718112
  (.seq (.seq (.rg [o1 32 (.copy 7),
    o1 33 (.copy 0),
    o1 34 (.len 33),
    o1 35 (.data (.bin .lss) [.t 32, .t 34])])
  (.cond (.t 35)
   .skip
   (.exit 2)))
  (.seq (.join [⟨5, [.sl [.i .i64, .i .i64]], false⟩] 2251524935778336 none (.block 3 (.seq (.rg [o1 38 (.load 3 [] 0 .nil 2 false),
    o1 39 (.copy 0),
    o1 40 (.copy 7),
    o1 41 (.index 39 (.t 40)),
    o1 42 (.load 39 [(0, 2)] 0 (.t 41) 2 false),
    o3 43 116 [.t 38, .t 42]])
  (.cond (.t 43)
   (.rg [⟨false, [], [], .det 2 (.copy 5), [44, 5], (some 44), none⟩,
     o1 45 (.copy 0),
     o1 46 (.copy 7),
     o1 47 (.index 45 (.t 46)),
     o1 48 (.load 45 [(0, 2)] 0 (.t 47) 2 false),
     o1 49 (.sli [.i .i64, .i .i64] [.t 48]),
     ⟨false, [], [], .det 2 (.app (some 44) 49), [50, 44], (some 50), none⟩,
     ⟨false, [], [], .det 2 (.copy 50), [5, 50], (some 5), none⟩])
   .skip))))
  (.rg [o1 36 (.copy 7),
    o1 37 (.data (.bin .add) [.t 36, .c (.int .i64 (1))]),
    o1 7 (.copy 37)])))))))
 (.seq (.rg [⟨false, [], [], .det 2 (.copy 5), [51, 5], (some 51), none⟩,
   ⟨false, [], [], .det 2 (.copy 51), [4, 51], (some 4), none⟩])
 .ret))))))
def s_sl05Put : Sig := ⟨[.rd false [.sl (.own none) [.d, .d]], .rd true [.d, .d]], (.one false [.sl (.own none) [.d, .d]])⟩
noncomputable def E_sl05Put : TEnv := envOf [(116, p_sl05Less)]
noncomputable def f_sl05Put (n : Nat) : (List (Int × Int)) × (Int × Int) → Option ((List (Int × Int)) × Unit) := runFn n E_sl05Put c_sl05Put [[.sl [.i .i64, .i .i64]], [.i .i64, .i .i64]] [.sl [.i .i64, .i .i64]] [] [4] .no
noncomputable def g_sl05Put := f_sl05Put BIG
noncomputable def p_sl05Put : TSp := ⟨s_sl05Put, [[.sl [.i .i64, .i .i64]], [.i .i64, .i .i64]], [.sl [.i .i64, .i .i64]], [], Ou.j .no, g_sl05Put⟩
theorem k_sl05Put : chkW PG E_sl05Put 114 s_sl05Put (c_sl05Put.ht 52) .no = some (c_sl05Put.wc E_sl05Put, [4]) := by kernel_rfl
theorem ok_sl05Put : p_sl05Put.Ok PG 114 := mkOk (env_cons ok_sl05Less (env_nil PG)) k_sl05Put (by kernel_rfl)
theorem e_sl05Put (n : Nat) (a0 : List (Int × Int)) (a1 : Int × Int) : f_sl05Put n (a0, a1) =
  Option.bind (loopT n (X := (List (Int × Int)) × Int) (B := (List (Int × Int))) (fun self1 x0 =>
    bif decide (x0.2 < (a0.length : Int)) then
     Option.bind (bnd a0.length x0.2 fun n2 =>
      Option.bind a0[n2]? fun y3 =>
      Option.bind (g_sl05Less (y3, a1)) fun r4 =>
      bif r4.1 then
       bnd a0.length x0.2 fun n5 =>
       Option.bind a0[n5]? fun y6 =>
       bif decide (x0.1.length + [y6].length ≤ 4294967296) then
        some (x0.1 ++ [y6])
       else none
      else some x0.1 : Option ((List (Int × Int)))) fun x7 =>
     self1 (x7, IntKind.wrap .i64 (x0.2 + (1 : Int)))
    else some x0.1) ([], (0 : Int)) : Option ((List (Int × Int)))) fun x8 =>
  bif decide (x8.length + [a1].length ≤ 4294967296) then
   Option.bind (loopT n (X := (List (Int × Int)) × Int) (B := (List (Int × Int))) (fun self10 x9 =>
     bif decide (x9.2 < (a0.length : Int)) then
      Option.bind (bnd a0.length x9.2 fun n11 =>
       Option.bind a0[n11]? fun y12 =>
       Option.bind (g_sl05Less (a1, y12)) fun r13 =>
       bif r13.1 then
        bnd a0.length x9.2 fun n14 =>
        Option.bind a0[n14]? fun y15 =>
        bif decide (x9.1.length + [y15].length ≤ 4294967296) then
         some (x9.1 ++ [y15])
        else none
       else some x9.1 : Option ((List (Int × Int)))) fun x16 =>
      self10 (x16, IntKind.wrap .i64 (x9.2 + (1 : Int)))
     else some x9.1) (x8 ++ [a1], (0 : Int)) : Option ((List (Int × Int)))) fun x17 =>
   some (x17, ())
  else none := by kernel_rfl
/- spec.l06Tree -/
def c_sl06Tree : TC :=
 (.seq (.rg [o1 4 (.lit [.sl [.i .i64, .i .i64]] [.slice none 0 0])])
 (.seq (.rg [o1 7 (.sli [.i .i64, .i .i64] []),
   ⟨false, [], [], .det 2 (.copy 7), [5, 7], (some 5), none⟩])
 (.seq (.join [⟨0, [.sl [.i .u8], .i .i64, .i .i64], false⟩, ⟨5, [.sl [.i .i64, .i .i64]], false⟩] 8388449 none (.seq (.rg [o1 6 (.lit [.i .i64] [.int .i64 (1)])])
 (.block 0 (.loop [⟨0, [.sl [.i .u8], .i .i64, .i .i64], false⟩, ⟨5, [.sl [.i .i64, .i .i64]], false⟩, ⟨6, [.i .i64], false⟩] 8388449
  (.seq (.seq (.rg [o1 8 (.copy 6),
    o1 9 (.copy 1),
    o1 10 (.data (.bin .lss) [.t 8, .t 9])])
  (.cond (.t 10)
   .skip
   (.exit 0)))
  (.seq (.join [⟨0, [.sl [.i .u8], .i .i64, .i .i64], false⟩, ⟨5, [.sl [.i .i64, .i .i64]], false⟩] 8380449 none (.block 1 (.seq (.rg [o1 13 (.p0),
    ⟨false, [], [], .call 2 52 [.t 0, .c [.i .i64] [.int .i64 (6)]] (.mp 0), [14, 0], (some 14), none⟩,
    o1 15 (.data .not [.t 14])])
  (.cond (.t 15)
   (.rg [⟨false, [], [], .det 2 (.copy 5), [16, 5], (some 16), none⟩,
     o1 17 (.p0),
     o1 18 (.copy 6),
     ⟨false, [], [], .call 2 41 [.t 0, .t 18] (.mp 0), [19, 0], (some 19), none⟩,
     o1 20 (.copy 6),
     o1 21 (.build [.i .i64, .i .i64] [(0, .t 19), (1, .t 20)]),
     o3 22 114 [.t 16, .t 21],
     ⟨false, [], [], .det 2 (.copy 22), [5, 22], (some 5), none⟩])
   .skip))))
  (.rg [o1 11 (.copy 6),
    o1 12 (.data (.bin .add) [.t 11, .c (.int .i64 (1))]),
    o1 6 (.copy 12)])))))))
 (.seq (.rg [⟨false, [], [], .det 2 (.copy 5), [23, 5], (some 23), none⟩,
   ⟨false, [], [], .det 2 (.copy 23), [4, 23], (some 4), none⟩])
 .ret))))
def s_sl06Tree : Sig := ⟨[.mp [.sl (.ro []) [.d], .d, .d], .rd false [.d]], (.one false [.sl (.own none) [.d, .d]])⟩
noncomputable def E_sl06Tree : TEnv := envOf [(52, p_sl01Once), (41, p_sl01Below), (114, p_sl05Put)]
noncomputable def f_sl06Tree (n : Nat) : (List (Int) × Int × Int) × Int → Option ((List (Int × Int)) × List (Int) × Int × Int) := runFn n E_sl06Tree c_sl06Tree [[.sl [.i .u8], .i .i64, .i .i64], [.i .i64]] [.sl [.i .i64, .i .i64]] [.sl [.i .u8], .i .i64, .i .i64] [4] (.mp 0)
noncomputable def g_sl06Tree := f_sl06Tree BIG
noncomputable def p_sl06Tree : TSp := ⟨s_sl06Tree, [[.sl [.i .u8], .i .i64, .i .i64], [.i .i64]], [.sl [.i .i64, .i .i64]], [.sl [.i .u8], .i .i64, .i .i64], Ou.j (.mp 0), g_sl06Tree⟩
theorem k_sl06Tree : chkW PG E_sl06Tree 99 s_sl06Tree (c_sl06Tree.ht 24) (.mp 0) = some (c_sl06Tree.wc E_sl06Tree, [4]) := by kernel_rfl
theorem ok_sl06Tree : p_sl06Tree.Ok PG 99 := mkOk (env_cons ok_sl01Once (env_cons ok_sl01Below (env_cons ok_sl05Put (env_nil PG)))) k_sl06Tree (by kernel_rfl)
theorem e_sl06Tree (n : Nat) (a0 : List (Int) × Int × Int) (a1 : Int) : f_sl06Tree n (a0, a1) =
  Option.bind (loopT n (X := (List (Int) × Int × Int) × (List (Int × Int)) × Int) (B := (List (Int) × Int × Int) × (List (Int × Int))) (fun self1 x0 =>
    bif decide (x0.2.2 < a1) then
     Option.bind (Option.bind (g_sl01Once (x0.1, (6 : Int))) fun r2 =>
      bif !r2.1 then
       Option.bind (g_sl01Below (r2.2, x0.2.2)) fun r3 =>
       Option.bind (g_sl05Put (x0.2.1, (r3.1, x0.2.2))) fun r4 =>
       some (r3.2, r4.1)
      else some (r2.2, x0.2.1) : Option ((List (Int) × Int × Int) × (List (Int × Int)))) fun x5 =>
     self1 (x5.1, x5.2, IntKind.wrap .i64 (x0.2.2 + (1 : Int)))
    else some (x0.1, x0.2.1)) (a0, [], (1 : Int)) : Option ((List (Int) × Int × Int) × (List (Int × Int)))) fun x6 =>
  some (x6.2, x6.1) := by kernel_rfl
/- spec.l01In -/
def c_sl01In : TC :=
 (.seq (.rg [o1 6 (.lit [.b] [.bool false])])
 (.seq (.join [⟨6, [.b], false⟩] 32704 none (.rg [o1 7 (.copy 0),
   o1 8 (.copy 1),
   o1 9 (.data (.bin .geq) [.t 7, .t 8]),
   o1 10 (.copy 9),
   o2 11 (.copy 0) 3 true,
   o2 12 (.copy 2) 3 true,
   o2 13 (.data (.bin .leq) [.t 11, .t 12]) 3 true,
   ⟨false, [], [], .pick 10 (.t 13) (.c (.bool false)), [14], (some 14), none⟩,
   o1 6 (.copy 14)]))
 .ret))
def s_sl01In : Sig := ⟨[.rd false [.d], .rd false [.d], .rd false [.d]], (.one false [.d])⟩
noncomputable def E_sl01In : TEnv := envOf []
noncomputable def f_sl01In (n : Nat) : Int × Int × Int → Option ((Bool) × Unit) := runFn n E_sl01In c_sl01In [[.i .i64], [.i .i64], [.i .i64]] [.b] [] [6] .no
noncomputable def g_sl01In := f_sl01In BIG
noncomputable def p_sl01In : TSp := ⟨s_sl01In, [[.i .i64], [.i .i64], [.i .i64]], [.b], [], Ou.j .no, g_sl01In⟩
theorem k_sl01In : chkW PG E_sl01In 46 s_sl01In (c_sl01In.ht 15) .no = some (c_sl01In.wc E_sl01In, [6]) := by kernel_rfl
theorem ok_sl01In : p_sl01In.Ok PG 46 := mkOk (env_nil PG) k_sl01In (by kernel_rfl)
theorem e_sl01In (n : Nat) (a0 : Int) (a1 : Int) (a2 : Int) : f_sl01In n (a0, a1, a2) =
  Option.bind (bif decide (a1 ≤ a0) then
    some (decide (a0 ≤ a2))
   else some false : Option (Bool)) fun x0 =>
  some (x0, ()) := by kernel_rfl
/- spec.EdgeOk -/
def c_sEdgeOk : TC :=
 (.seq (.rg [o1 3 (.a (.t 1)),
   o1 4 (.lit [.b] [.bool false])])
 (.seq (.join [⟨4, [.b], false⟩] 268435440 none (.rg [o1 5 (.copy 0),
   o3 6 46 [.t 5, .c [.i .i64] [.int .i64 (1)], .c [.i .i64] [.int .i64 (12)]],
   o1 7 (.copy 6),
   o2 8 (.idx .nil) 2 true,
   o2 9 (.load 3 [] 0 (.t 8) 1 false) 2 true,
   o2 10 (.copy 0) 2 true,
   o2 11 (.data (.bin .sub) [.t 10, .c (.int .i64 (1))]) 2 true,
   ⟨false, [], [], .call 1 46 [.t 9, .c [.i .i64] [.int .i64 (0)], .t 11] .no, [12], (some 12), some (2, true)⟩,
   ⟨false, [], [], .pick 7 (.t 12) (.c (.bool false)), [13], (some 13), none⟩,
   o1 14 (.copy 13),
   o2 15 (.idx .nil) 9 true,
   o2 16 (.load 3 [] 1 (.t 15) 1 false) 9 true,
   o2 17 (.copy 0) 9 true,
   o2 18 (.data (.bin .sub) [.t 17, .c (.int .i64 (1))]) 9 true,
   ⟨false, [], [], .call 1 46 [.t 16, .c [.i .i64] [.int .i64 (0)], .t 18] .no, [19], (some 19), some (9, true)⟩,
   ⟨false, [], [], .pick 14 (.t 19) (.c (.bool false)), [20], (some 20), none⟩,
   o1 21 (.copy 20),
   o2 22 (.idx .nil) 16 true,
   o2 23 (.load 3 [] 0 (.t 22) 1 false) 16 true,
   o2 24 (.idx .nil) 16 true,
   o2 25 (.load 3 [] 1 (.t 24) 1 false) 16 true,
   o2 26 (.data (.bin .lss) [.t 23, .t 25]) 16 true,
   ⟨false, [], [], .pick 21 (.t 26) (.c (.bool false)), [27], (some 27), none⟩,
   o1 4 (.copy 27)]))
 .ret))
def s_sEdgeOk : Sig := ⟨[.rd false [.d], .rd true [.d, .d]], (.one false [.d])⟩
noncomputable def E_sEdgeOk : TEnv := envOf [(46, p_sl01In)]
noncomputable def f_sEdgeOk (n : Nat) : Int × (Int × Int) → Option ((Bool) × Unit) := runFn n E_sEdgeOk c_sEdgeOk [[.i .i64], [.i .i64, .i .i64]] [.b] [] [4] .no
noncomputable def g_sEdgeOk := f_sEdgeOk BIG
noncomputable def p_sEdgeOk : TSp := ⟨s_sEdgeOk, [[.i .i64], [.i .i64, .i .i64]], [.b], [], Ou.j .no, g_sEdgeOk⟩
theorem k_sEdgeOk : chkW PG E_sEdgeOk 47 s_sEdgeOk (c_sEdgeOk.ht 28) .no = some (c_sEdgeOk.wc E_sEdgeOk, [4]) := by kernel_rfl
theorem ok_sEdgeOk : p_sEdgeOk.Ok PG 47 := mkOk (env_cons ok_sl01In (env_nil PG)) k_sEdgeOk (by kernel_rfl)
theorem e_sEdgeOk (n : Nat) (a0 : Int) (a1 : Int × Int) : f_sEdgeOk n (a0, a1) =
  Option.bind (Option.bind (g_sl01In (a0, (1 : Int), (12 : Int))) fun r0 =>
   bif r0.1 then
    Option.bind (g_sl01In (a1.1, (0 : Int), IntKind.wrap .i64 (a0 - (1 : Int)))) fun r1 =>
    bif r1.1 then
     Option.bind (g_sl01In (a1.2, (0 : Int), IntKind.wrap .i64 (a0 - (1 : Int)))) fun r2 =>
     bif r2.1 then
      some (decide (a1.1 < a1.2))
     else some false
    else some false
   else some false : Option (Bool)) fun x3 =>
  some (x3, ()) := by kernel_rfl
/- spec.l05Has -/
def c_sl05Has : TC :=
 (.seq (.rg [o1 3 (.a (.t 1)),
   o1 4 (.lit [.b] [.bool false])])
 (.seq (.join [] 262128 (some [⟨4, [.b], false⟩]) (.seq (.rg [o1 5 (.lit [.i .i64] [.int .i64 (0)])])
 (.block 0 (.loop [⟨5, [.i .i64], false⟩] 262128
  (.seq (.seq (.rg [o1 6 (.copy 5),
    o1 7 (.copy 0),
    o1 8 (.len 7),
    o1 9 (.data (.bin .lss) [.t 6, .t 8])])
  (.cond (.t 9)
   .skip
   (.exit 0)))
  (.seq (.block 1 (.seq (.rg [o1 12 (.copy 0),
    o1 13 (.copy 5),
    o1 14 (.index 12 (.t 13)),
    o1 15 (.load 12 [(0, 2)] 0 (.t 14) 2 false),
    o1 16 (.load 3 [] 0 .nil 2 false),
    o1 17 (.eqA [.i, .i] (.t 15) (.t 16) false)])
  (.cond (.t 17)
   (.seq (.rg [o1 4 (.lit [.b] [.bool true])])
   .ret)
   .skip)))
  (.rg [o1 10 (.copy 5),
    o1 11 (.data (.bin .add) [.t 10, .c (.int .i64 (1))]),
    o1 5 (.copy 11)])))))))
 (.seq (.rg [o1 4 (.lit [.b] [.bool false])])
 .ret)))
def s_sl05Has : Sig := ⟨[.rd false [.sl (.own none) [.d, .d]], .rd true [.d, .d]], (.one false [.d])⟩
noncomputable def E_sl05Has : TEnv := envOf []
noncomputable def f_sl05Has (n : Nat) : (List (Int × Int)) × (Int × Int) → Option ((Bool) × Unit) := runFn n E_sl05Has c_sl05Has [[.sl [.i .i64, .i .i64]], [.i .i64, .i .i64]] [.b] [] [4] .no
noncomputable def g_sl05Has := f_sl05Has BIG
noncomputable def p_sl05Has : TSp := ⟨s_sl05Has, [[.sl [.i .i64, .i .i64]], [.i .i64, .i .i64]], [.b], [], Ou.j .no, g_sl05Has⟩
theorem k_sl05Has : chkW PG E_sl05Has 103 s_sl05Has (c_sl05Has.ht 18) .no = some (c_sl05Has.wc E_sl05Has, [4]) := by kernel_rfl
theorem ok_sl05Has : p_sl05Has.Ok PG 103 := mkOk (env_nil PG) k_sl05Has (by kernel_rfl)
theorem e_sl05Has (n : Nat) (a0 : List (Int × Int)) (a1 : Int × Int) : f_sl05Has n (a0, a1) =
  Option.bind (loopT n (X := Int) (B := (Unit) ⊕ (Bool)) (fun self1 x0 =>
    bif decide (x0 < (a0.length : Int)) then
     bnd a0.length x0 fun n2 =>
     Option.bind a0[n2]? fun y3 =>
     bif (decide (y3.1 = a1.1) && (decide (y3.2 = a1.2) && true)) then
      some (Sum.inr true)
     else self1 (IntKind.wrap .i64 (x0 + (1 : Int)))
    else some (Sum.inl ())) (0 : Int) : Option ((Unit) ⊕ (Bool))) fun y => match y with
  | .inl x4 =>
   some (false, ())
  | .inr x4 =>
   some (x4, ()) := by kernel_rfl
/- spec.l06Walk -/
def c_sl06Walk : TC :=
 (.seq (.rg [o1 10 (.lit [.sl [.i .i64]] [.slice none 0 0]),
   o1 11 (.lit [.b] [.bool false])])
 (.seq (.rg [o1 17 (.copy 2),
   o1 18 (.sli [.i .i64] [.t 17]),
   ⟨false, [], [], .det 2 (.copy 18), [12, 18], (some 12), none⟩])
 (.seq (.rg [⟨true, [], [], .det 1 (.copy 4), [19], (some 19), none⟩,
   o1 20 (.copy 2),
   o1 21 (.index 19 (.t 20)),
   o4 1 [4, 19] (.store 4 [(0, 1)] 0 (.t 21) (.c [.b] [.bool true]))])
 (.seq (.join [⟨12, [.sl [.i .i64]], false⟩, ⟨4, [.sl [.b]], false⟩] 147573952589672348688 (some [⟨10, [.sl [.i .i64]], false⟩, ⟨11, [.b], false⟩, ⟨4, [.sl [.b]], false⟩]) (.seq (.rg [o1 13 (.lit [.i .i64] [.int .i64 (0)])])
 (.block 0 (.loop [⟨12, [.sl [.i .i64]], false⟩, ⟨4, [.sl [.b]], false⟩, ⟨13, [.i .i64], false⟩] 147573952589674445840
  (.seq (.seq (.rg [o1 22 (.copy 13),
    o1 23 (.copy 0),
    o1 24 (.data (.bin .lss) [.t 22, .t 23])])
  (.cond (.t 24)
   .skip
   (.exit 0)))
  (.seq (.join [⟨12, [.sl [.i .i64]], false⟩, ⟨4, [.sl [.b]], false⟩] 147573952589542317072 (some [⟨10, [.sl [.i .i64]], false⟩, ⟨11, [.b], false⟩, ⟨4, [.sl [.b]], false⟩]) (.block 1 (.seq (.rg [o1 27 (.copy 13),
    o1 28 (.copy 2),
    o1 29 (.build [.i .i64, .i .i64] [(0, .t 27), (1, .t 28)]),
    ⟨false, [], [], .det 2 (.a (.c [.i .i64, .i .i64] [.int .i64 (0), .int .i64 (0)])), [14, 1000000001], (some 14), none⟩,
    o4 1 [14] (.store 14 [] 0 .nil (.t 29))])
  (.seq (.join [⟨14, [.i .i64, .i .i64], false⟩] 67645751296 none (.seq (.rg [o1 30 (.copy 2),
    o1 31 (.copy 13),
    o1 32 (.data (.bin .lss) [.t 30, .t 31])])
  (.cond (.t 32)
   (.rg [o1 33 (.copy 2),
     o1 34 (.copy 13),
     o1 35 (.build [.i .i64, .i .i64] [(0, .t 33), (1, .t 34)]),
     o4 1 [14] (.store 14 [] 0 .nil (.t 35))])
   .skip)))
  (.seq (.seq (.join [⟨44, [.b], false⟩] 35115652612096 none (.rg [o1 36 (.copy 13),
    o1 37 (.copy 3),
    o1 38 (.data (.bin .eql) [.t 36, .t 37]),
    o1 39 (.copy 38),
    o2 40 (.copy 1) 3 false,
    o2 41 (.load 14 [] 0 .nil 2 false) 3 false,
    ⟨false, [], [], .call 1 103 [.t 40, .t 41] .no, [42], (some 42), some (3, false)⟩,
    o2 43 (.data .not [.t 42]) 3 false,
    ⟨false, [], [], .pick 39 (.c (.bool true)) (.t 43), [44], (some 44), none⟩]))
  (.cond (.t 44)
   (.exit 1)
   .skip))
  (.seq (.seq (.rg [⟨true, [], [], .det 1 (.copy 4), [45], (some 45), none⟩,
    o1 46 (.copy 13),
    o1 47 (.index 45 (.t 46)),
    o1 48 (.load 4 [(0, 1)] 0 (.t 47) 1 false)])
  (.cond (.t 48)
   (.seq (.rg [⟨false, [], [], .det 2 (.copy 12), [49, 12], (some 49), none⟩,
     ⟨false, [], [], .det 2 (.copy 49), [10, 49], (some 10), none⟩,
     o1 11 (.lit [.b] [.bool true])])
   .ret)
   .skip))
  (.seq (.rg [o1 51 (.copy 0),
    o1 52 (.copy 1),
    o1 53 (.copy 13),
    o1 54 (.copy 2),
    ⟨true, [], [], .det 1 (.copy 4), [55], (some 55), none⟩,
    ⟨false, [], [], .call 2 48 [.t 51, .t 52, .t 53, .t 54, .t 55] (.mt 4 [] 0 55 4), [56, 4, 45, 47, 55], (some 56), none⟩,
    ⟨false, [], [], .det 2 (.copy 56), [50, 56], (some 50), none⟩,
    ⟨false, [], [], .det 2 (.ext 50 0 1), [57, 50], (some 57), none⟩,
    o1 58 (.ext 50 1 1),
    ⟨false, [], [], .det 2 (.copy 57), [15, 57], (some 15), none⟩,
    o1 16 (.copy 58)])
  (.seq (.seq (.rg [o1 59 (.copy 16)])
  (.cond (.t 59)
   (.seq (.rg [⟨false, [], [], .det 2 (.copy 12), [60, 12], (some 60), none⟩,
     ⟨false, [], [], .det 2 (.copy 60), [10, 60], (some 10), none⟩,
     o1 11 (.lit [.b] [.bool true])])
   .ret)
   .skip))
  (.rg [⟨false, [], [], .det 2 (.copy 12), [61, 12], (some 61), none⟩,
    ⟨false, [], [], .det 2 (.copy 15), [62, 15], (some 62), none⟩,
    ⟨false, [], [], .det 2 (.app (some 61) 62), [63, 61], (some 63), none⟩,
    o1 64 (.copy 2),
    o1 65 (.sli [.i .i64] [.t 64]),
    ⟨false, [], [], .det 2 (.app (some 63) 65), [66, 63], (some 66), none⟩,
    ⟨false, [], [], .det 2 (.copy 66), [12, 66], (some 12), none⟩])))))))))
  (.rg [o1 25 (.copy 13),
    o1 26 (.data (.bin .add) [.t 25, .c (.int .i64 (1))]),
    o1 13 (.copy 26)])))))))
 (.seq (.rg [⟨false, [], [], .det 2 (.copy 12), [67, 12], (some 67), none⟩,
   ⟨false, [], [], .det 2 (.copy 67), [10, 67], (some 10), none⟩,
   o1 11 (.lit [.b] [.bool false])])
 .ret)))))
def s_sl06Walk : Sig := ⟨[.rd false [.d], .rd false [.sl (.own none) [.d, .d]], .rd false [.d], .rd false [.d], .mt false [.sl (.own none) [.d]]], (.tup [(false, 1), (false, 1)] [.sl (.own none) [.d], .d])⟩
noncomputable def E_sl06Walk (q : Int × (List (Int × Int)) × Int × Int × List (Bool) → Option ((List (Int) × Bool) × List (Bool))) : TEnv := envOf [(103, p_sl05Has), (48, ⟨s_sl06Walk, [[.i .i64], [.sl [.i .i64, .i .i64]], [.i .i64], [.i .i64], [.sl [.b]]], [.sl [.i .i64], .b], [.sl [.b]], Ou.j (.mt 4 4 0), q⟩)]
noncomputable def f_sl06Walk (q : Int × (List (Int × Int)) × Int × Int × List (Bool) → Option ((List (Int) × Bool) × List (Bool))) (n : Nat) : Int × (List (Int × Int)) × Int × Int × List (Bool) → Option ((List (Int) × Bool) × List (Bool)) := runFn n (E_sl06Walk q) c_sl06Walk [[.i .i64], [.sl [.i .i64, .i .i64]], [.i .i64], [.i .i64], [.sl [.b]]] [.sl [.i .i64], .b] [.sl [.b]] [10, 11] (.mt 4 4 0)
noncomputable def g_sl06Walk : Nat → Int × (List (Int × Int)) × Int × Int × List (Bool) → Option ((List (Int) × Bool) × List (Bool))
  | 0 => fun _ => none
  | d + 1 => f_sl06Walk (g_sl06Walk d) BIG
noncomputable def p_sl06Walk (d : Nat) : TSp := ⟨s_sl06Walk, [[.i .i64], [.sl [.i .i64, .i .i64]], [.i .i64], [.i .i64], [.sl [.b]]], [.sl [.i .i64], .b], [.sl [.b]], Ou.j (.mt 4 4 0), (g_sl06Walk d)⟩
theorem k_sl06Walk (q : Int × (List (Int × Int)) × Int × Int × List (Bool) → Option ((List (Int) × Bool) × List (Bool))) : chkW PG (E_sl06Walk q) 48 s_sl06Walk (c_sl06Walk.ht 68) (.mt 4 4 0) = some (c_sl06Walk.wc (E_sl06Walk q), [10, 11]) := by kernel_rfl
theorem ok_sl06Walk : ∀ d : Nat, (p_sl06Walk d).Ok PG 48
  | 0 => fun _ _ _ h => by cases h
  | d + 1 => mkOk (env_cons ok_sl05Has (env_cons (ok_sl06Walk d) (env_nil PG))) (k_sl06Walk _) (by kernel_rfl)
theorem e_sl06Walk (q : Int × (List (Int × Int)) × Int × Int × List (Bool) → Option ((List (Int) × Bool) × List (Bool))) (n : Nat) (a0 : Int) (a1 : List (Int × Int)) (a2 : Int) (a3 : Int) (a4 : List (Bool)) : f_sl06Walk q n (a0, a1, a2, a3, a4) =
  bnd a4.length a2 fun n0 =>
  Option.bind a4[n0]? fun y1 =>
  Option.bind (loopT n (X := (List (Int)) × (List (Bool)) × Int) (B := ((List (Int)) × (List (Bool))) ⊕ ((List (Int)) × Bool × (List (Bool)))) (fun self3 x2 =>
    bif decide (x2.2.2 < a0) then
     Option.bind (Option.bind (bif decide (a2 < x2.2.2) then
        some (a2, x2.2.2)
       else some (x2.2.2, a2) : Option ((Int × Int))) fun x4 =>
      Option.bind (bif decide (x2.2.2 = a3) then
        some true
       else Option.bind (g_sl05Has (a1, x4)) fun r5 =>
       some !r5.1 : Option (Bool)) fun x6 =>
      bif x6 then
       some (Sum.inl (x2.1, x2.2.1))
      else bnd x2.2.1.length x2.2.2 fun n7 =>
      Option.bind x2.2.1[n7]? fun y8 =>
      bif y8 then
       some (Sum.inr (x2.1, true, x2.2.1))
      else Option.bind (q (a0, a1, x2.2.2, a2, x2.2.1)) fun r9 =>
      bif r9.1.2 then
       some (Sum.inr (x2.1, true, r9.2))
      else bif decide (x2.1.length + r9.1.1.length ≤ 4294967296) then
       bif decide ((x2.1 ++ r9.1.1).length + [a2].length ≤ 4294967296) then
        some (Sum.inl ((x2.1 ++ r9.1.1) ++ [a2], r9.2))
       else none
      else none : Option (((List (Int)) × (List (Bool))) ⊕ ((List (Int)) × Bool × (List (Bool))))) fun y => match y with
     | .inl x10 =>
      self3 (x10.1, x10.2, IntKind.wrap .i64 (x2.2.2 + (1 : Int)))
     | .inr x10 =>
      some (Sum.inr (x10.1, x10.2.1, x10.2.2))
    else some (Sum.inl (x2.1, x2.2.1))) ([a2], a4.set n0 true, (0 : Int)) : Option (((List (Int)) × (List (Bool))) ⊕ ((List (Int)) × Bool × (List (Bool))))) fun y => match y with
  | .inl x11 =>
   some ((x11.1, false), x11.2)
  | .inr x11 =>
   some ((x11.1, x11.2.1), x11.2.2) := by kernel_rfl
/- spec.TourOf -/
def c_sTourOf : TC :=
 (.seq (.rg [o1 6 (.lit [.sl [.i .i64]] [.slice none 0 0]),
   o1 7 (.lit [.b] [.bool false])])
 (.seq (.seq (.join [⟨20, [.b], false⟩] 2095104 none (.rg [o1 11 (.copy 0),
   o3 12 46 [.t 11, .c [.i .i64] [.int .i64 (1)], .c [.i .i64] [.int .i64 (12)]],
   o1 13 (.data .not [.t 12]),
   o1 14 (.copy 13),
   o2 15 (.copy 2) 3 false,
   o2 16 (.copy 0) 3 false,
   o2 17 (.data (.bin .sub) [.t 16, .c (.int .i64 (1))]) 3 false,
   ⟨false, [], [], .call 1 46 [.t 15, .c [.i .i64] [.int .i64 (0)], .t 17] .no, [18], (some 18), some (3, false)⟩,
   o2 19 (.data .not [.t 18]) 3 false,
   ⟨false, [], [], .pick 14 (.c (.bool true)) (.t 19), [20], (some 20), none⟩]))
 (.cond (.t 20)
  (.seq (.rg [o1 21 (.sli [.i .i64] []),
    ⟨false, [], [], .det 2 (.copy 21), [6, 21], (some 6), none⟩,
    o1 7 (.lit [.b] [.bool false])])
  .ret)
  .skip))
 (.seq (.join [] 68715282880 (some [⟨6, [.sl [.i .i64]], false⟩, ⟨7, [.b], false⟩]) (.seq (.rg [o1 8 (.lit [.i .i64] [.int .i64 (0)])])
 (.block 0 (.loop [⟨8, [.i .i64], false⟩] 68715282880
  (.seq (.seq (.rg [o1 22 (.copy 8),
    o1 23 (.copy 1),
    o1 24 (.len 23),
    o1 25 (.data (.bin .lss) [.t 22, .t 24])])
  (.cond (.t 25)
   .skip
   (.exit 0)))
  (.seq (.block 1 (.seq (.rg [o1 28 (.copy 0),
    o1 29 (.copy 1),
    o1 30 (.copy 8),
    o1 31 (.index 29 (.t 30)),
    o1 32 (.load 29 [(0, 2)] 0 (.t 31) 2 false),
    o3 33 47 [.t 28, .t 32],
    o1 34 (.data .not [.t 33])])
  (.cond (.t 34)
   (.seq (.rg [o1 35 (.sli [.i .i64] []),
     ⟨false, [], [], .det 2 (.copy 35), [6, 35], (some 6), none⟩,
     o1 7 (.lit [.b] [.bool false])])
   .ret)
   .skip)))
  (.rg [o1 26 (.copy 8),
    o1 27 (.data (.bin .add) [.t 26, .c (.int .i64 (1))]),
    o1 8 (.copy 27)])))))))
 (.seq (.rg [o1 37 (.copy 0),
   o1 38 (.copy 1),
   o1 39 (.copy 2),
   o1 40 (.copy 0),
   o1 41 (.make (.t 40) [.b]),
   ⟨false, [], [], .call 2 48 [.t 37, .t 38, .t 39, .c [.i .i64] [.int .i64 (-1)], .t 41] (.mt 41 [] 0 41 4), [42, 41], (some 42), none⟩,
   ⟨false, [], [], .det 2 (.copy 42), [36, 42], (some 36), none⟩,
   ⟨false, [], [], .det 2 (.ext 36 0 1), [43, 36], (some 43), none⟩,
   o1 44 (.ext 36 1 1),
   ⟨false, [], [], .det 2 (.copy 43), [9, 43], (some 9), none⟩,
   o1 10 (.copy 44)])
 (.seq (.seq (.rg [o1 45 (.copy 10)])
 (.cond (.t 45)
  (.seq (.rg [o1 46 (.sli [.i .i64] []),
    ⟨false, [], [], .det 2 (.copy 46), [6, 46], (some 6), none⟩,
    o1 7 (.lit [.b] [.bool false])])
  .ret)
  .skip))
 (.seq (.rg [⟨false, [], [], .det 2 (.copy 9), [47, 9], (some 47), none⟩,
   ⟨false, [], [], .det 2 (.copy 47), [6, 47], (some 6), none⟩,
   o1 7 (.lit [.b] [.bool true])])
 .ret))))))
def s_sTourOf : Sig := ⟨[.rd false [.d], .rd false [.sl (.own none) [.d, .d]], .rd false [.d]], (.tup [(false, 1), (false, 1)] [.sl (.own none) [.d], .d])⟩
noncomputable def E_sTourOf : TEnv := envOf [(46, p_sl01In), (47, p_sEdgeOk), (48, p_sl06Walk 64)]
noncomputable def f_sTourOf (n : Nat) : Int × (List (Int × Int)) × Int → Option ((List (Int) × Bool) × Unit) := runFn n E_sTourOf c_sTourOf [[.i .i64], [.sl [.i .i64, .i .i64]], [.i .i64]] [.sl [.i .i64], .b] [] [6, 7] .no
noncomputable def g_sTourOf := f_sTourOf BIG
noncomputable def p_sTourOf : TSp := ⟨s_sTourOf, [[.i .i64], [.sl [.i .i64, .i .i64]], [.i .i64]], [.sl [.i .i64], .b], [], Ou.j .no, g_sTourOf⟩
theorem k_sTourOf : chkW PG E_sTourOf 11 s_sTourOf (c_sTourOf.ht 48) .no = some (c_sTourOf.wc E_sTourOf, [6, 7]) := by kernel_rfl
theorem ok_sTourOf : p_sTourOf.Ok PG 11 := mkOk (env_cons ok_sl01In (env_cons ok_sEdgeOk (env_cons (ok_sl06Walk 64) (env_nil PG)))) k_sTourOf (by kernel_rfl)
theorem e_sTourOf (n : Nat) (a0 : Int) (a1 : List (Int × Int)) (a2 : Int) : f_sTourOf n (a0, a1, a2) =
  Option.bind (Option.bind (g_sl01In (a0, (1 : Int), (12 : Int))) fun r0 =>
   bif !r0.1 then
    some true
   else Option.bind (g_sl01In (a2, (0 : Int), IntKind.wrap .i64 (a0 - (1 : Int)))) fun r1 =>
   some !r1.1 : Option (Bool)) fun x2 =>
  bif x2 then
   some (([], false), ())
  else Option.bind (loopT n (X := Int) (B := (Unit) ⊕ ((List (Int)) × Bool)) (fun self4 x3 =>
    bif decide (x3 < (a1.length : Int)) then
     bnd a1.length x3 fun n5 =>
     Option.bind a1[n5]? fun y6 =>
     Option.bind (g_sEdgeOk (a0, y6)) fun r7 =>
     bif !r7.1 then
      some (Sum.inr ([], false))
     else self4 (IntKind.wrap .i64 (x3 + (1 : Int)))
    else some (Sum.inl ())) (0 : Int) : Option ((Unit) ⊕ ((List (Int)) × Bool))) fun y => match y with
  | .inl x8 =>
   bif decide (0 ≤ a0) then
    bif decide ((Int.toNat a0) ≤ 4294967296) then
     Option.bind (g_sl06Walk 64 (a0, a1, a2, (-1 : Int), List.replicate (Int.toNat a0) false)) fun r9 =>
     bif r9.1.2 then
      some (([], false), ())
     else some ((r9.1.1, true), ())
    else none
   else none
  | .inr x8 =>
   some (x8, ()) := by kernel_rfl
/- spec.l06Tour -/
def c_sl06Tour : TC :=
 (.seq (.rg [o1 2 (.lit [.sl [.i .i64]] [.slice none 0 0])])
 (.seq (.rg [o1 6 (.p0),
   ⟨false, [], [], .call 2 41 [.t 0, .c [.i .i64] [.int .i64 (12)]] (.mp 0), [7, 0], (some 7), none⟩,
   o1 8 (.data (.bin .add) [.c (.int .i64 (1)), .t 7]),
   o1 3 (.copy 8)])
 (.seq (.rg [o1 10 (.copy 3),
   o1 11 (.p0),
   o1 12 (.copy 3),
   ⟨false, [], [], .call 2 99 [.t 0, .t 12] (.mp 0), [13, 0], (some 13), none⟩,
   o1 14 (.p0),
   o1 15 (.copy 3),
   ⟨false, [], [], .call 2 41 [.t 0, .t 15] (.mp 0), [16, 0], (some 16), none⟩,
   o3 17 11 [.t 10, .t 13, .t 16],
   ⟨false, [], [], .det 2 (.copy 17), [9, 17], (some 9), none⟩,
   ⟨false, [], [], .det 2 (.ext 9 0 1), [18, 9], (some 18), none⟩,
   o1 19 (.ext 9 1 1),
   ⟨false, [], [], .det 2 (.copy 18), [4, 18], (some 4), none⟩,
   o1 5 (.copy 19)])
 (.seq (.rg [⟨false, [], [], .det 2 (.copy 4), [20, 4], (some 20), none⟩,
   ⟨false, [], [], .det 2 (.copy 20), [2, 20], (some 2), none⟩])
 .ret))))
def s_sl06Tour : Sig := ⟨[.mp [.sl (.ro []) [.d], .d, .d]], (.one false [.sl (.own none) [.d]])⟩
noncomputable def E_sl06Tour : TEnv := envOf [(41, p_sl01Below), (99, p_sl06Tree), (11, p_sTourOf)]
noncomputable def f_sl06Tour (n : Nat) : (List (Int) × Int × Int) → Option ((List (Int)) × List (Int) × Int × Int) := runFn n E_sl06Tour c_sl06Tour [[.sl [.i .u8], .i .i64, .i .i64]] [.sl [.i .i64]] [.sl [.i .u8], .i .i64, .i .i64] [2] (.mp 0)
noncomputable def g_sl06Tour := f_sl06Tour BIG
noncomputable def p_sl06Tour : TSp := ⟨s_sl06Tour, [[.sl [.i .u8], .i .i64, .i .i64]], [.sl [.i .i64]], [.sl [.i .u8], .i .i64, .i .i64], Ou.j (.mp 0), g_sl06Tour⟩
theorem k_sl06Tour : chkW PG E_sl06Tour 40 s_sl06Tour (c_sl06Tour.ht 21) (.mp 0) = some (c_sl06Tour.wc E_sl06Tour, [2]) := by kernel_rfl
theorem ok_sl06Tour : p_sl06Tour.Ok PG 40 := mkOk (env_cons ok_sl01Below (env_cons ok_sl06Tree (env_cons ok_sTourOf (env_nil PG)))) k_sl06Tour (by kernel_rfl)
theorem e_sl06Tour (n : Nat) (a0 : List (Int) × Int × Int) : f_sl06Tour n a0 =
  Option.bind (g_sl01Below (a0, (12 : Int))) fun r0 =>
  Option.bind (g_sl06Tree (r0.2, IntKind.wrap .i64 ((1 : Int) + r0.1))) fun r1 =>
  Option.bind (g_sl01Below (r1.2, IntKind.wrap .i64 ((1 : Int) + r0.1))) fun r2 =>
  Option.bind (g_sTourOf (IntKind.wrap .i64 ((1 : Int) + r0.1), r1.1, r2.1)) fun r3 =>
  some (r3.1.1, r2.2) := by kernel_rfl
/- spec.DrawRightTour -/
def c_sDrawRightTour : TC :=
 (.seq (.rg [o1 2 (.lit [.sl [.i .i64]] [.slice none 0 0]),
   o1 3 (.lit [.i .i64] [.int .i64 (0)])])
 (.seq (.rg [o1 6 (.copy 0),
   o3 7 39 [.t 6],
   o1 4 (.p0)])
 (.seq (.rg [o1 8 (.same 4),
   ⟨false, [], [], .call 2 40 [.t 7] (.mp 0), [9, 7], (some 9), none⟩,
   ⟨false, [], [], .det 2 (.copy 9), [5, 9], (some 5), none⟩])
 (.seq (.rg [⟨true, [5], [], .det 1 (.copy 5), [10, 5], (some 10), none⟩,
   o1 11 (.copy 5),
   o1 12 (.same 4),
   o1 13 (.copy 5),
   o1 14 (.len 13),
   ⟨false, [], [], .call 2 41 [.t 7, .t 14] (.mp 0), [15, 7], (some 15), none⟩,
   o1 16 (.index 11 (.t 15)),
   o1 17 (.load 11 [(0, 1)] 0 (.t 16) 1 false),
   o1 2 (.copy 10),
   o1 3 (.copy 17)])
 .ret))))
def s_sDrawRightTour : Sig := ⟨[.rd false [.sl (.own none) [.d]]], (.tup [(false, 1), (false, 1)] [.sl (.ro []) [.d], .d])⟩
noncomputable def E_sDrawRightTour : TEnv := envOf [(39, p_sl01New), (40, p_sl06Tour), (41, p_sl01Below)]
noncomputable def f_sDrawRightTour (n : Nat) : List (Int) → Option ((List (Int) × Int) × Unit) := runFn n E_sDrawRightTour c_sDrawRightTour [[.sl [.i .u8]]] [.sl [.i .i64], .i .i64] [] [2, 3] .no
noncomputable def g_sDrawRightTour := f_sDrawRightTour BIG
noncomputable def p_sDrawRightTour : TSp := ⟨s_sDrawRightTour, [[.sl [.i .u8]]], [.sl [.i .i64], .i .i64], [], Ou.j .no, g_sDrawRightTour⟩
theorem k_sDrawRightTour : chkW PG E_sDrawRightTour 8 s_sDrawRightTour (c_sDrawRightTour.ht 18) .no = some (c_sDrawRightTour.wc E_sDrawRightTour, [2, 3]) := by kernel_rfl
theorem ok_sDrawRightTour : p_sDrawRightTour.Ok PG 8 := mkOk (env_cons ok_sl01New (env_cons ok_sl06Tour (env_cons ok_sl01Below (env_nil PG)))) k_sDrawRightTour (by kernel_rfl)
theorem e_sDrawRightTour (n : Nat) (a0 : List (Int)) : f_sDrawRightTour n a0 =
  Option.bind (g_sl01New a0) fun r0 =>
  Option.bind (g_sl06Tour r0.1) fun r1 =>
  Option.bind (g_sl01Below (r1.2, (r1.1.length : Int))) fun r2 =>
  bnd r1.1.length r2.1 fun n3 =>
  Option.bind r1.1[n3]? fun y4 =>
  some ((r1.1, y4), ()) := by kernel_rfl
/- laws.has -/
def c_lhas : TC :=
 (.seq (.rg [o1 3 (.a (.t 1)),
   o1 4 (.lit [.b] [.bool false])])
 (.seq (.join [] 262128 (some [⟨4, [.b], false⟩]) (.seq (.rg [o1 5 (.lit [.i .i64] [.int .i64 (0)])])
 (.block 0 (.loop [⟨5, [.i .i64], false⟩] 262128
  (.seq (.seq (.rg [o1 6 (.copy 5),
    o1 7 (.copy 0),
    o1 8 (.len 7),
    o1 9 (.data (.bin .lss) [.t 6, .t 8])])
  (.cond (.t 9)
   .skip
   (.exit 0)))
  (.seq (.block 1 (.seq (.rg [o1 12 (.copy 0),
    o1 13 (.copy 5),
    o1 14 (.index 12 (.t 13)),
    o1 15 (.load 12 [(0, 2)] 0 (.t 14) 2 false),
    o1 16 (.load 3 [] 0 .nil 2 false),
    o1 17 (.eqA [.i, .i] (.t 15) (.t 16) false)])
  (.cond (.t 17)
   (.seq (.rg [o1 4 (.lit [.b] [.bool true])])
   .ret)
   .skip)))
  (.rg [o1 10 (.copy 5),
    o1 11 (.data (.bin .add) [.t 10, .c (.int .i64 (1))]),
    o1 5 (.copy 11)])))))))
 (.seq (.rg [o1 4 (.lit [.b] [.bool false])])
 .ret)))
def s_lhas : Sig := ⟨[.rd false [.sl (.own none) [.d, .d]], .rd true [.d, .d]], (.one false [.d])⟩
noncomputable def E_lhas : TEnv := envOf []
noncomputable def f_lhas (n : Nat) : (List (Int × Int)) × (Int × Int) → Option ((Bool) × Unit) := runFn n E_lhas c_lhas [[.sl [.i .i64, .i .i64]], [.i .i64, .i .i64]] [.b] [] [4] .no
noncomputable def g_lhas := f_lhas BIG
noncomputable def p_lhas : TSp := ⟨s_lhas, [[.sl [.i .i64, .i .i64]], [.i .i64, .i .i64]], [.b], [], Ou.j .no, g_lhas⟩
theorem k_lhas : chkW PG E_lhas 9 s_lhas (c_lhas.ht 18) .no = some (c_lhas.wc E_lhas, [4]) := by kernel_rfl
theorem ok_lhas : p_lhas.Ok PG 9 := mkOk (env_nil PG) k_lhas (by kernel_rfl)
theorem e_lhas (n : Nat) (a0 : List (Int × Int)) (a1 : Int × Int) : f_lhas n (a0, a1) =
  Option.bind (loopT n (X := Int) (B := (Unit) ⊕ (Bool)) (fun self1 x0 =>
    bif decide (x0 < (a0.length : Int)) then
     bnd a0.length x0 fun n2 =>
     Option.bind a0[n2]? fun y3 =>
     bif (decide (y3.1 = a1.1) && (decide (y3.2 = a1.2) && true)) then
      some (Sum.inr true)
     else self1 (IntKind.wrap .i64 (x0 + (1 : Int)))
    else some (Sum.inl ())) (0 : Int) : Option ((Unit) ⊕ (Bool))) fun y => match y with
  | .inl x4 =>
   some (false, ())
  | .inr x4 =>
   some (x4, ()) := by kernel_rfl
/- impl.in -/
def c_iin : TC :=
 (.seq (.rg [o1 6 (.lit [.b] [.bool false])])
 (.seq (.join [⟨6, [.b], false⟩] 32704 none (.rg [o1 7 (.copy 0),
   o1 8 (.copy 1),
   o1 9 (.data (.bin .geq) [.t 7, .t 8]),
   o1 10 (.copy 9),
   o2 11 (.copy 0) 3 true,
   o2 12 (.copy 2) 3 true,
   o2 13 (.data (.bin .leq) [.t 11, .t 12]) 3 true,
   ⟨false, [], [], .pick 10 (.t 13) (.c (.bool false)), [14], (some 14), none⟩,
   o1 6 (.copy 14)]))
 .ret))
def s_iin : Sig := ⟨[.rd false [.d], .rd false [.d], .rd false [.d]], (.one false [.d])⟩
noncomputable def E_iin : TEnv := envOf []
noncomputable def f_iin (n : Nat) : Int × Int × Int → Option ((Bool) × Unit) := runFn n E_iin c_iin [[.i .i64], [.i .i64], [.i .i64]] [.b] [] [6] .no
noncomputable def g_iin := f_iin BIG
noncomputable def p_iin : TSp := ⟨s_iin, [[.i .i64], [.i .i64], [.i .i64]], [.b], [], Ou.j .no, g_iin⟩
theorem k_iin : chkW PG E_iin 42 s_iin (c_iin.ht 15) .no = some (c_iin.wc E_iin, [6]) := by kernel_rfl
theorem ok_iin : p_iin.Ok PG 42 := mkOk (env_nil PG) k_iin (by kernel_rfl)
theorem e_iin (n : Nat) (a0 : Int) (a1 : Int) (a2 : Int) : f_iin n (a0, a1, a2) =
  Option.bind (bif decide (a1 ≤ a0) then
    some (decide (a0 ≤ a2))
   else some false : Option (Bool)) fun x0 =>
  some (x0, ()) := by kernel_rfl
/- impl.EdgeOk -/
def c_iEdgeOk : TC :=
 (.seq (.rg [o1 3 (.a (.t 1)),
   o1 4 (.lit [.b] [.bool false])])
 (.seq (.join [⟨4, [.b], false⟩] 268435440 none (.rg [o1 5 (.copy 0),
   o3 6 42 [.t 5, .c [.i .i64] [.int .i64 (1)], .c [.i .i64] [.int .i64 (12)]],
   o1 7 (.copy 6),
   o2 8 (.idx .nil) 2 true,
   o2 9 (.load 3 [] 0 (.t 8) 1 false) 2 true,
   o2 10 (.copy 0) 2 true,
   o2 11 (.data (.bin .sub) [.t 10, .c (.int .i64 (1))]) 2 true,
   ⟨false, [], [], .call 1 42 [.t 9, .c [.i .i64] [.int .i64 (0)], .t 11] .no, [12], (some 12), some (2, true)⟩,
   ⟨false, [], [], .pick 7 (.t 12) (.c (.bool false)), [13], (some 13), none⟩,
   o1 14 (.copy 13),
   o2 15 (.idx .nil) 9 true,
   o2 16 (.load 3 [] 1 (.t 15) 1 false) 9 true,
   o2 17 (.copy 0) 9 true,
   o2 18 (.data (.bin .sub) [.t 17, .c (.int .i64 (1))]) 9 true,
   ⟨false, [], [], .call 1 42 [.t 16, .c [.i .i64] [.int .i64 (0)], .t 18] .no, [19], (some 19), some (9, true)⟩,
   ⟨false, [], [], .pick 14 (.t 19) (.c (.bool false)), [20], (some 20), none⟩,
   o1 21 (.copy 20),
   o2 22 (.idx .nil) 16 true,
   o2 23 (.load 3 [] 0 (.t 22) 1 false) 16 true,
   o2 24 (.idx .nil) 16 true,
   o2 25 (.load 3 [] 1 (.t 24) 1 false) 16 true,
   o2 26 (.data (.bin .lss) [.t 23, .t 25]) 16 true,
   ⟨false, [], [], .pick 21 (.t 26) (.c (.bool false)), [27], (some 27), none⟩,
   o1 4 (.copy 27)]))
 .ret))
def s_iEdgeOk : Sig := ⟨[.rd false [.d], .rd true [.d, .d]], (.one false [.d])⟩
noncomputable def E_iEdgeOk : TEnv := envOf [(42, p_iin)]
noncomputable def f_iEdgeOk (n : Nat) : Int × (Int × Int) → Option ((Bool) × Unit) := runFn n E_iEdgeOk c_iEdgeOk [[.i .i64], [.i .i64, .i .i64]] [.b] [] [4] .no
noncomputable def g_iEdgeOk := f_iEdgeOk BIG
noncomputable def p_iEdgeOk : TSp := ⟨s_iEdgeOk, [[.i .i64], [.i .i64, .i .i64]], [.b], [], Ou.j .no, g_iEdgeOk⟩
theorem k_iEdgeOk : chkW PG E_iEdgeOk 43 s_iEdgeOk (c_iEdgeOk.ht 28) .no = some (c_iEdgeOk.wc E_iEdgeOk, [4]) := by kernel_rfl
theorem ok_iEdgeOk : p_iEdgeOk.Ok PG 43 := mkOk (env_cons ok_iin (env_nil PG)) k_iEdgeOk (by kernel_rfl)
theorem e_iEdgeOk (n : Nat) (a0 : Int) (a1 : Int × Int) : f_iEdgeOk n (a0, a1) =
  Option.bind (Option.bind (g_iin (a0, (1 : Int), (12 : Int))) fun r0 =>
   bif r0.1 then
    Option.bind (g_iin (a1.1, (0 : Int), IntKind.wrap .i64 (a0 - (1 : Int)))) fun r1 =>
    bif r1.1 then
     Option.bind (g_iin (a1.2, (0 : Int), IntKind.wrap .i64 (a0 - (1 : Int)))) fun r2 =>
     bif r2.1 then
      some (decide (a1.1 < a1.2))
     else some false
    else some false
   else some false : Option (Bool)) fun x3 =>
  some (x3, ()) := by kernel_rfl
/- impl.first -/
def c_ifirst : TC :=
 (.seq (.rg [o1 2 (.lit [.sl [.i .i64]] [.slice none 0 0])])
 (.seq (.rg [o1 3 (.lit [.sl [.i .i64]] [.slice none 0 0])])
 (.seq (.join [⟨3, [.sl [.i .i64]], false⟩] 16376 none (.seq (.rg [o1 5 (.copy 0),
   o1 6 (.lit [.i .i64] [.int .i64 (0)])])
 (.block 0 (.loop [⟨3, [.sl [.i .i64]], false⟩, ⟨6, [.i .i64], false⟩] 16344
  (.seq (.rg [o1 7 (.data (.bin .lss) [.t 6, .t 5])])
  (.seq (.cond (.t 7)
   .skip
   (.exit 0))
  (.seq (.block 1 (.seq (.rg [o1 8 (.copy 6),
    o1 4 (.copy 8)])
  (.rg [⟨false, [], [], .det 2 (.copy 3), [9, 3], (some 9), none⟩,
    o1 10 (.copy 4),
    o1 11 (.sli [.i .i64] [.t 10]),
    ⟨false, [], [], .det 2 (.app (some 9) 11), [12, 9], (some 12), none⟩,
    ⟨false, [], [], .det 2 (.copy 12), [3, 12], (some 3), none⟩])))
  (.rg [o1 13 (.data (.bin .add) [.t 6, .c (.int .i64 (1))]),
    o1 6 (.copy 13)]))))))))
 (.seq (.rg [⟨false, [], [], .det 2 (.copy 3), [14, 3], (some 14), none⟩,
   ⟨false, [], [], .det 2 (.copy 14), [2, 14], (some 2), none⟩])
 .ret))))
def s_ifirst : Sig := ⟨[.rd false [.d]], (.one false [.sl (.own none) [.d]])⟩
noncomputable def E_ifirst : TEnv := envOf []
noncomputable def f_ifirst (n : Nat) : Int → Option ((List (Int)) × Unit) := runFn n E_ifirst c_ifirst [[.i .i64]] [.sl [.i .i64]] [] [2] .no
noncomputable def g_ifirst := f_ifirst BIG
noncomputable def p_ifirst : TSp := ⟨s_ifirst, [[.i .i64]], [.sl [.i .i64]], [], Ou.j .no, g_ifirst⟩
theorem k_ifirst : chkW PG E_ifirst 101 s_ifirst (c_ifirst.ht 15) .no = some (c_ifirst.wc E_ifirst, [2]) := by kernel_rfl
theorem ok_ifirst : p_ifirst.Ok PG 101 := mkOk (env_nil PG) k_ifirst (by kernel_rfl)
theorem e_ifirst (n : Nat) (a0 : Int) : f_ifirst n a0 =
  Option.bind (loopT n (X := (List (Int)) × Int) (B := (List (Int))) (fun self1 x0 =>
    bif decide (x0.2 < a0) then
     bif decide (x0.1.length + [x0.2].length ≤ 4294967296) then
      self1 (x0.1 ++ [x0.2], IntKind.wrap .i64 (x0.2 + (1 : Int)))
     else none
    else some x0.1) ([], (0 : Int)) : Option ((List (Int)))) fun x2 =>
  some (x2, ()) := by kernel_rfl
/- impl.union -/
def c_iunion : TC :=
 (.seq (.rg [o1 6 (.lit [.b] [.bool false])])
 (.seq (.rg [⟨true, [], [], .det 1 (.copy 0), [10], (some 10), none⟩,
   o1 11 (.copy 1),
   o1 12 (.index 10 (.t 11)),
   o1 13 (.load 0 [(0, 1)] 0 (.t 12) 1 false),
   ⟨true, [], [], .det 1 (.copy 0), [14], (some 14), none⟩,
   o1 15 (.copy 2),
   o1 16 (.index 14 (.t 15)),
   o1 17 (.load 0 [(0, 1)] 0 (.t 16) 1 false),
   o1 7 (.copy 13),
   o1 8 (.copy 17)])
 (.seq (.seq (.rg [o1 18 (.copy 7),
   o1 19 (.copy 8),
   o1 20 (.data (.bin .eql) [.t 18, .t 19])])
 (.cond (.t 20)
  (.seq (.rg [o1 6 (.lit [.b] [.bool false])])
  .ret)
  .skip))
 (.seq (.join [⟨0, [.sl [.i .i64]], false⟩] 2199021158913 none (.seq (.rg [⟨true, [], [], .det 1 (.copy 0), [21], (some 21), none⟩,
   o1 22 (.len 21),
   o1 23 (.lit [.i .i64] [.int .i64 (0)])])
 (.block 0 (.loop [⟨0, [.sl [.i .i64]], false⟩, ⟨23, [.i .i64], false⟩] 2199016982017
  (.seq (.rg [o1 24 (.data (.bin .lss) [.t 23, .t 22])])
  (.seq (.cond (.t 24)
   .skip
   (.exit 0))
  (.seq (.join [⟨0, [.sl [.i .i64]], false⟩] 1099478073857 none (.block 1 (.seq (.rg [o1 25 (.copy 23),
    o1 9 (.copy 25)])
  (.seq (.rg [⟨true, [], [], .det 1 (.copy 0), [26], (some 26), none⟩,
    o1 27 (.copy 9),
    o1 28 (.index 26 (.t 27)),
    o1 29 (.load 0 [(0, 1)] 0 (.t 28) 1 false),
    o1 30 (.copy 7),
    o1 31 (.copy 8),
    o1 32 (.data .max [.t 30, .t 31]),
    o1 33 (.data (.bin .eql) [.t 29, .t 32])])
  (.cond (.t 33)
   (.rg [⟨true, [], [], .det 1 (.copy 0), [34], (some 34), none⟩,
     o1 35 (.copy 9),
     o1 36 (.copy 7),
     o1 37 (.copy 8),
     o1 38 (.data .min [.t 36, .t 37]),
     o1 39 (.index 34 (.t 35)),
     o4 1 [0, 26, 34] (.store 0 [(0, 1)] 0 (.t 39) (.t 38))])
   .skip)))))
  (.rg [o1 40 (.data (.bin .add) [.t 23, .c (.int .i64 (1))]),
    o1 23 (.copy 40)]))))))))
 (.seq (.rg [o1 6 (.lit [.b] [.bool true])])
 .ret)))))
def s_iunion : Sig := ⟨[.mt false [.sl (.own none) [.d]], .rd false [.d], .rd false [.d]], (.one false [.d])⟩
noncomputable def E_iunion : TEnv := envOf []
noncomputable def f_iunion (n : Nat) : List (Int) × Int × Int → Option ((Bool) × List (Int)) := runFn n E_iunion c_iunion [[.sl [.i .i64]], [.i .i64], [.i .i64]] [.b] [.sl [.i .i64]] [6] (.mt 0 0 0)
noncomputable def g_iunion := f_iunion BIG
noncomputable def p_iunion : TSp := ⟨s_iunion, [[.sl [.i .i64]], [.i .i64], [.i .i64]], [.b], [.sl [.i .i64]], Ou.j (.mt 0 0 0), g_iunion⟩
theorem k_iunion : chkW PG E_iunion 102 s_iunion (c_iunion.ht 41) (.mt 0 0 0) = some (c_iunion.wc E_iunion, [6]) := by kernel_rfl
theorem ok_iunion : p_iunion.Ok PG 102 := mkOk (env_nil PG) k_iunion (by kernel_rfl)
theorem e_iunion (n : Nat) (a0 : List (Int)) (a1 : Int) (a2 : Int) : f_iunion n (a0, a1, a2) =
  bnd a0.length a1 fun n0 =>
  Option.bind a0[n0]? fun y1 =>
  bnd a0.length a2 fun n2 =>
  Option.bind a0[n2]? fun y3 =>
  bif decide (y1 = y3) then
   some (false, a0)
  else Option.bind (loopT n (X := (List (Int)) × Int) (B := (List (Int))) (fun self5 x4 =>
    bif decide (x4.2 < (a0.length : Int)) then
     Option.bind (bnd x4.1.length x4.2 fun n6 =>
      Option.bind x4.1[n6]? fun y7 =>
      bif decide (y7 = (if y3 > y1 then y3 else y1)) then
       bnd x4.1.length x4.2 fun n8 =>
       Option.bind x4.1[n8]? fun y9 =>
       some (x4.1.set n8 (if y3 < y1 then y3 else y1))
      else some x4.1 : Option ((List (Int)))) fun x10 =>
     self5 (x10, IntKind.wrap .i64 (x4.2 + (1 : Int)))
    else some x4.1) (a0, (0 : Int)) : Option ((List (Int)))) fun x11 =>
  some (true, x11) := by kernel_rfl
/- impl.rings -/
def c_irings : TC :=
 (.seq (.rg [o1 4 (.lit [.b] [.bool false])])
 (.seq (.rg [o1 8 (.copy 0),
   o3 9 101 [.t 8],
   ⟨false, [], [], .det 2 (.copy 9), [5, 9], (some 5), none⟩])
 (.seq (.join [] 16776368 (some [⟨4, [.b], false⟩]) (.seq (.rg [o1 10 (.copy 1),
   o1 11 (.len 10),
   o1 12 (.lit [.i .i64] [.int .i64 (0)])])
 (.block 0 (.loop [⟨5, [.sl [.i .i64]], false⟩, ⟨12, [.i .i64], false⟩] 16773296
  (.seq (.rg [o1 13 (.data (.bin .lss) [.t 12, .t 11])])
  (.seq (.cond (.t 13)
   .skip
   (.exit 0))
  (.seq (.block 1 (.seq (.rg [o1 14 (.index 10 (.t 12)),
    o1 15 (.load 10 [(0, 2)] 0 (.t 14) 2 false),
    ⟨false, [], [], .det 2 (.a (.c [.i .i64, .i .i64] [.int .i64 (0), .int .i64 (0)])), [7, 1000000001], (some 7), none⟩,
    o4 1 [7] (.store 7 [] 0 .nil (.t 15))])
  (.seq (.rg [⟨true, [], [], .det 1 (.copy 5), [16], (some 16), none⟩,
    o1 17 (.idx .nil),
    o1 18 (.load 7 [] 0 (.t 17) 1 false),
    o1 19 (.idx .nil),
    o1 20 (.load 7 [] 1 (.t 19) 1 false),
    ⟨false, [], [], .call 2 102 [.t 16, .t 18, .t 20] (.mt 5 [] 0 16 0), [21, 5, 16], (some 21), none⟩,
    o1 22 (.data .not [.t 21])])
  (.cond (.t 22)
   (.seq (.rg [o1 4 (.lit [.b] [.bool true])])
   .ret)
   .skip))))
  (.rg [o1 23 (.data (.bin .add) [.t 12, .c (.int .i64 (1))]),
    o1 12 (.copy 23)]))))))))
 (.seq (.rg [o1 4 (.lit [.b] [.bool false])])
 .ret))))
def s_irings : Sig := ⟨[.rd false [.d], .rd false [.sl (.own none) [.d, .d]]], (.one false [.d])⟩
noncomputable def E_irings : TEnv := envOf [(101, p_ifirst), (102, p_iunion)]
noncomputable def f_irings (n : Nat) : Int × (List (Int × Int)) → Option ((Bool) × Unit) := runFn n E_irings c_irings [[.i .i64], [.sl [.i .i64, .i .i64]]] [.b] [] [4] .no
noncomputable def g_irings := f_irings BIG
noncomputable def p_irings : TSp := ⟨s_irings, [[.i .i64], [.sl [.i .i64, .i .i64]]], [.b], [], Ou.j .no, g_irings⟩
theorem k_irings : chkW PG E_irings 44 s_irings (c_irings.ht 24) .no = some (c_irings.wc E_irings, [4]) := by kernel_rfl
theorem ok_irings : p_irings.Ok PG 44 := mkOk (env_cons ok_ifirst (env_cons ok_iunion (env_nil PG))) k_irings (by kernel_rfl)
theorem e_irings (n : Nat) (a0 : Int) (a1 : List (Int × Int)) : f_irings n (a0, a1) =
  Option.bind (g_ifirst a0) fun r0 =>
  Option.bind (loopT n (X := (List (Int)) × Int) (B := (Unit) ⊕ (Bool)) (fun self2 x1 =>
    bif decide (x1.2 < (a1.length : Int)) then
     bnd a1.length x1.2 fun n3 =>
     Option.bind a1[n3]? fun y4 =>
     Option.bind (g_iunion (x1.1, y4.1, y4.2)) fun r5 =>
     bif !r5.1 then
      some (Sum.inr true)
     else self2 (r5.2, IntKind.wrap .i64 (x1.2 + (1 : Int)))
    else some (Sum.inl ())) (r0.1, (0 : Int)) : Option ((Unit) ⊕ (Bool))) fun y => match y with
  | .inl x6 =>
   some (false, ())
  | .inr x6 =>
   some (x6, ()) := by kernel_rfl
/- impl.copyInts -/
def c_icopyInts : TC :=
 (.seq (.rg [o1 2 (.lit [.sl [.i .i64]] [.slice none 0 0])])
 (.seq (.rg [o1 3 (.copy 0),
   o1 4 (.app none 3),
   ⟨false, [], [], .det 2 (.copy 4), [2, 4], (some 2), none⟩])
 .ret))
def s_icopyInts : Sig := ⟨[.rd false [.sl (.own none) [.d]]], (.one false [.sl (.own none) [.d]])⟩
noncomputable def E_icopyInts : TEnv := envOf []
noncomputable def f_icopyInts (n : Nat) : List (Int) → Option ((List (Int)) × Unit) := runFn n E_icopyInts c_icopyInts [[.sl [.i .i64]]] [.sl [.i .i64]] [] [2] .no
noncomputable def g_icopyInts := f_icopyInts BIG
noncomputable def p_icopyInts : TSp := ⟨s_icopyInts, [[.sl [.i .i64]]], [.sl [.i .i64]], [], Ou.j .no, g_icopyInts⟩
theorem k_icopyInts : chkW PG E_icopyInts 104 s_icopyInts (c_icopyInts.ht 5) .no = some (c_icopyInts.wc E_icopyInts, [2]) := by kernel_rfl
theorem ok_icopyInts : p_icopyInts.Ok PG 104 := mkOk (env_nil PG) k_icopyInts (by kernel_rfl)
theorem e_icopyInts (n : Nat) (a0 : List (Int)) : f_icopyInts n a0 =
  bif decide (a0.length ≤ 4294967296) then
   some (a0, ())
  else none := by kernel_rfl
/- impl.with -/
def c_iwith : TC :=
 (.seq (.rg [o1 4 (.lit [.sl [.i .i64]] [.slice none 0 0])])
 (.seq (.rg [o1 5 (.lit [.i .i64] [.int .i64 (0)])])
 (.seq (.join [⟨5, [.i .i64], false⟩] 1048544 none (.block 0 (.loop [⟨5, [.i .i64], false⟩] 1048544
  (.seq (.seq (.join [⟨17, [.b], false⟩] 262080 none (.rg [o1 6 (.copy 5),
    ⟨true, [], [], .det 1 (.copy 0), [7], (some 7), none⟩,
    o1 8 (.len 7),
    o1 9 (.data (.bin .lss) [.t 6, .t 8]),
    o1 10 (.copy 9),
    ⟨true, [], [], .det 1 (.copy 0), [11], (some 11), some (4, true)⟩,
    o2 12 (.copy 5) 4 true,
    o2 13 (.index 11 (.t 12)) 4 true,
    o2 14 (.load 0 [(0, 1)] 0 (.t 13) 1 false) 4 true,
    o2 15 (.copy 1) 4 true,
    o2 16 (.data (.bin .lss) [.t 14, .t 15]) 4 true,
    ⟨false, [], [], .pick 10 (.t 16) (.c (.bool false)), [17], (some 17), none⟩]))
  (.cond (.t 17)
   .skip
   (.exit 0)))
  (.block 1 (.rg [o1 18 (.copy 5),
    o1 19 (.data (.bin .add) [.t 18, .c (.int .i64 (1))]),
    o1 5 (.copy 19)]))))))
 (.seq (.seq (.join [⟨31, [.b], false⟩] 4293918720 none (.rg [o1 20 (.copy 5),
   ⟨true, [], [], .det 1 (.copy 0), [21], (some 21), none⟩,
   o1 22 (.len 21),
   o1 23 (.data (.bin .lss) [.t 20, .t 22]),
   o1 24 (.copy 23),
   ⟨true, [], [], .det 1 (.copy 0), [25], (some 25), some (4, true)⟩,
   o2 26 (.copy 5) 4 true,
   o2 27 (.index 25 (.t 26)) 4 true,
   o2 28 (.load 0 [(0, 1)] 0 (.t 27) 1 false) 4 true,
   o2 29 (.copy 1) 4 true,
   o2 30 (.data (.bin .eql) [.t 28, .t 29]) 4 true,
   ⟨false, [], [], .pick 24 (.t 30) (.c (.bool false)), [31], (some 31), none⟩]))
 (.cond (.t 31)
  (.seq (.rg [⟨false, [], [], .det 2 (.copy 0), [32, 0, 7, 21], (some 32), none⟩,
    ⟨false, [], [], .det 2 (.copy 32), [4, 32], (some 4), none⟩])
  .ret)
  .skip))
 (.seq (.rg [⟨true, [], [], .det 1 (.copy 0), [33], (some 33), none⟩,
   o1 34 (.copy 5),
   o1 35 (.res 33 none (some (.t 34))),
   o3 36 104 [.t 35],
   o1 37 (.copy 1),
   o1 38 (.sli [.i .i64] [.t 37]),
   ⟨false, [], [], .det 2 (.app (some 36) 38), [39, 36], (some 39), none⟩,
   ⟨true, [], [], .det 1 (.copy 0), [40], (some 40), none⟩,
   o1 41 (.copy 5),
   o1 42 (.res 40 (some (.t 41)) none),
   ⟨false, [], [], .det 2 (.app (some 39) 42), [43, 39], (some 43), none⟩,
   ⟨false, [], [], .det 2 (.copy 43), [4, 43], (some 4), none⟩])
 .ret)))))
def s_iwith : Sig := ⟨[.tk false [.sl (.own none) [.d]], .rd false [.d]], (.one false [.sl (.own none) [.d]])⟩
noncomputable def E_iwith : TEnv := envOf [(104, p_icopyInts)]
noncomputable def f_iwith (n : Nat) : List (Int) × Int → Option ((List (Int)) × Unit) := runFn n E_iwith c_iwith [[.sl [.i .i64]], [.i .i64]] [.sl [.i .i64]] [] [4] .no
noncomputable def g_iwith := f_iwith BIG
noncomputable def p_iwith : TSp := ⟨s_iwith, [[.sl [.i .i64]], [.i .i64]], [.sl [.i .i64]], [], Ou.j .no, g_iwith⟩
theorem k_iwith : chkW PG E_iwith 49 s_iwith (c_iwith.ht 44) .no = some (c_iwith.wc E_iwith, [4]) := by kernel_rfl
theorem ok_iwith : p_iwith.Ok PG 49 := mkOk (env_cons ok_icopyInts (env_nil PG)) k_iwith (by kernel_rfl)
theorem e_iwith (n : Nat) (a0 : List (Int)) (a1 : Int) : f_iwith n (a0, a1) =
  Option.bind (loopT n (X := Int) (B := Int) (fun self1 x0 =>
    Option.bind (bif decide (x0 < (a0.length : Int)) then
      bnd a0.length x0 fun n2 =>
      Option.bind a0[n2]? fun y3 =>
      some (decide (y3 < a1))
     else some false : Option (Bool)) fun x4 =>
    bif x4 then
     self1 (IntKind.wrap .i64 (x0 + (1 : Int)))
    else some x0) (0 : Int) : Option (Int)) fun x5 =>
  Option.bind (bif decide (x5 < (a0.length : Int)) then
    bnd a0.length x5 fun n6 =>
    Option.bind a0[n6]? fun y7 =>
    some (decide (y7 = a1))
   else some false : Option (Bool)) fun x8 =>
  bif x8 then
   some (a0, ())
  else bif decide (0 ≤ x5) then
   bif decide (0 ≤ (Int.toNat x5) ∧ (Int.toNat x5) ≤ a0.length) then
    Option.bind (g_icopyInts (List.take ((Int.toNat x5) - 0) (List.drop 0 a0))) fun r9 =>
    bif decide (r9.1.length + [a1].length ≤ 4294967296) then
     bif decide (0 ≤ x5) then
      bif decide ((Int.toNat x5) ≤ a0.length ∧ a0.length ≤ a0.length) then
       bif decide ((r9.1 ++ [a1]).length + (List.take (a0.length - (Int.toNat x5)) (List.drop (Int.toNat x5) a0)).length ≤ 4294967296) then
        some ((r9.1 ++ [a1]) ++ (List.take (a0.length - (Int.toNat x5)) (List.drop (Int.toNat x5) a0)), ())
       else none
      else none
     else none
    else none
   else none
  else none := by kernel_rfl
/- impl.walk -/
def c_iwalk : TC :=
 (.seq (.rg [o1 6 (.lit [.sl [.i .i64]] [.slice none 0 0])])
 (.seq (.rg [o1 7 (.lit [.sl [.i .i64]] [.slice none 0 0])])
 (.seq (.join [⟨7, [.sl [.i .i64]], false⟩] 281474976703104 none (.seq (.rg [o1 13 (.copy 0),
   o1 14 (.len 13),
   o1 15 (.lit [.i .i64] [.int .i64 (0)])])
 (.block 0 (.loop [⟨7, [.sl [.i .i64]], false⟩, ⟨15, [.i .i64], false⟩] 281474976678528
  (.seq (.rg [o1 16 (.data (.bin .lss) [.t 15, .t 14])])
  (.seq (.cond (.t 16)
   .skip
   (.exit 0))
  (.seq (.join [⟨7, [.sl [.i .i64]], false⟩] 140737488224896 none (.block 1 (.seq (.rg [o1 17 (.index 13 (.t 15)),
    o1 18 (.load 13 [(0, 2)] 0 (.t 17) 2 false),
    ⟨false, [], [], .det 2 (.a (.c [.i .i64, .i .i64] [.int .i64 (0), .int .i64 (0)])), [9, 1000000001], (some 9), none⟩,
    o4 1 [9] (.store 9 [] 0 .nil (.t 18))])
  (.seq (.join [⟨7, [.sl [.i .i64]], false⟩] 8589410432 none (.seq (.join [⟨28, [.b], false⟩] 536346624 none (.rg [o1 19 (.idx .nil),
    o1 20 (.load 9 [] 0 (.t 19) 1 false),
    o1 21 (.copy 1),
    o1 22 (.data (.bin .eql) [.t 20, .t 21]),
    o1 23 (.copy 22),
    o2 24 (.idx .nil) 4 true,
    o2 25 (.load 9 [] 1 (.t 24) 1 false) 4 true,
    o2 26 (.copy 2) 4 true,
    o2 27 (.data (.bin .neq) [.t 25, .t 26]) 4 true,
    ⟨false, [], [], .pick 23 (.t 27) (.c (.bool false)), [28], (some 28), none⟩]))
  (.cond (.t 28)
   (.rg [⟨false, [], [], .det 2 (.copy 7), [29, 7], (some 29), none⟩,
     o1 30 (.idx .nil),
     o1 31 (.load 9 [] 1 (.t 30) 1 false),
     ⟨false, [], [], .call 2 49 [.t 29, .t 31] .no, [32, 29], (some 32), none⟩,
     ⟨false, [], [], .det 2 (.copy 32), [7, 32], (some 7), none⟩])
   .skip)))
  (.seq (.join [⟨42, [.b], false⟩] 8787503087616 none (.rg [o1 33 (.idx .nil),
    o1 34 (.load 9 [] 1 (.t 33) 1 false),
    o1 35 (.copy 1),
    o1 36 (.data (.bin .eql) [.t 34, .t 35]),
    o1 37 (.copy 36),
    o2 38 (.idx .nil) 4 true,
    o2 39 (.load 9 [] 0 (.t 38) 1 false) 4 true,
    o2 40 (.copy 2) 4 true,
    o2 41 (.data (.bin .neq) [.t 39, .t 40]) 4 true,
    ⟨false, [], [], .pick 37 (.t 41) (.c (.bool false)), [42], (some 42), none⟩]))
  (.cond (.t 42)
   (.rg [⟨false, [], [], .det 2 (.copy 7), [43, 7], (some 43), none⟩,
     o1 44 (.idx .nil),
     o1 45 (.load 9 [] 0 (.t 44) 1 false),
     ⟨false, [], [], .call 2 49 [.t 43, .t 45] .no, [46, 43], (some 46), none⟩,
     ⟨false, [], [], .det 2 (.copy 46), [7, 46], (some 7), none⟩])
   .skip))))))
  (.rg [o1 47 (.data (.bin .add) [.t 15, .c (.int .i64 (1))]),
    o1 15 (.copy 47)]))))))))
 (.seq (.rg [o1 48 (.copy 1),
   o1 49 (.sli [.i .i64] [.t 48]),
   ⟨false, [], [], .det 2 (.copy 49), [10, 49], (some 10), none⟩])
 (.seq (.join [⟨10, [.sl [.i .i64]], false⟩] 73785850394931369088 none (.seq (.rg [⟨false, [], [], .det 2 (.copy 7), [50, 7], (some 50), none⟩,
   o1 51 (.len 50),
   o1 52 (.lit [.i .i64] [.int .i64 (0)])])
 (.block 2 (.loop [⟨10, [.sl [.i .i64]], false⟩, ⟨52, [.i .i64], false⟩] 73782472695210841088
  (.seq (.rg [o1 53 (.data (.bin .lss) [.t 52, .t 51])])
  (.seq (.cond (.t 53)
   .skip
   (.exit 2))
  (.seq (.block 3 (.seq (.rg [o1 54 (.index 50 (.t 52)),
    o1 55 (.load 50 [(0, 1)] 0 (.t 54) 1 false),
    o1 12 (.copy 55)])
  (.rg [⟨false, [], [], .det 2 (.copy 10), [56, 10], (some 56), none⟩,
    o1 57 (.copy 0),
    o1 58 (.copy 12),
    o1 59 (.copy 1),
    o3 60 45 [.t 57, .t 58, .t 59],
    ⟨false, [], [], .det 2 (.app (some 56) 60), [61, 56], (some 61), none⟩,
    o1 62 (.copy 1),
    o1 63 (.sli [.i .i64] [.t 62]),
    ⟨false, [], [], .det 2 (.app (some 61) 63), [64, 61], (some 64), none⟩,
    ⟨false, [], [], .det 2 (.copy 64), [10, 64], (some 10), none⟩])))
  (.rg [o1 65 (.data (.bin .add) [.t 52, .c (.int .i64 (1))]),
    o1 52 (.copy 65)]))))))))
 (.seq (.rg [⟨false, [], [], .det 2 (.copy 10), [66, 10], (some 66), none⟩,
   ⟨false, [], [], .det 2 (.copy 66), [6, 66], (some 6), none⟩])
 .ret))))))
def s_iwalk : Sig := ⟨[.rd false [.sl (.own none) [.d, .d]], .rd false [.d], .rd false [.d]], (.one false [.sl (.own none) [.d]])⟩
noncomputable def E_iwalk (q : (List (Int × Int)) × Int × Int → Option ((List (Int)) × Unit)) : TEnv := envOf [(49, p_iwith), (45, ⟨s_iwalk, [[.sl [.i .i64, .i .i64]], [.i .i64], [.i .i64]], [.sl [.i .i64]], [], Ou.j .no, q⟩)]
noncomputable def f_iwalk (q : (List (Int × Int)) × Int × Int → Option ((List (Int)) × Unit)) (n : Nat) : (List (Int × Int)) × Int × Int → Option ((List (Int)) × Unit) := runFn n (E_iwalk q) c_iwalk [[.sl [.i .i64, .i .i64]], [.i .i64], [.i .i64]] [.sl [.i .i64]] [] [6] .no
noncomputable def g_iwalk : Nat → (List (Int × Int)) × Int × Int → Option ((List (Int)) × Unit)
  | 0 => fun _ => none
  | d + 1 => f_iwalk (g_iwalk d) BIG
noncomputable def p_iwalk (d : Nat) : TSp := ⟨s_iwalk, [[.sl [.i .i64, .i .i64]], [.i .i64], [.i .i64]], [.sl [.i .i64]], [], Ou.j .no, (g_iwalk d)⟩
theorem k_iwalk (q : (List (Int × Int)) × Int × Int → Option ((List (Int)) × Unit)) : chkW PG (E_iwalk q) 45 s_iwalk (c_iwalk.ht 67) .no = some (c_iwalk.wc (E_iwalk q), [6]) := by kernel_rfl
theorem ok_iwalk : ∀ d : Nat, (p_iwalk d).Ok PG 45
  | 0 => fun _ _ _ h => by cases h
  | d + 1 => mkOk (env_cons ok_iwith (env_cons (ok_iwalk d) (env_nil PG))) (k_iwalk _) (by kernel_rfl)
theorem e_iwalk (q : (List (Int × Int)) × Int × Int → Option ((List (Int)) × Unit)) (n : Nat) (a0 : List (Int × Int)) (a1 : Int) (a2 : Int) : f_iwalk q n (a0, a1, a2) =
  Option.bind (loopT n (X := (List (Int)) × Int) (B := (List (Int))) (fun self1 x0 =>
    bif decide (x0.2 < (a0.length : Int)) then
     Option.bind (bnd a0.length x0.2 fun n2 =>
      Option.bind a0[n2]? fun y3 =>
      Option.bind (Option.bind (bif decide (y3.1 = a1) then
         some (!decide (y3.2 = a2))
        else some false : Option (Bool)) fun x4 =>
       bif x4 then
        Option.bind (g_iwith (x0.1, y3.2)) fun r5 =>
        some r5.1
       else some x0.1 : Option ((List (Int)))) fun x6 =>
      Option.bind (bif decide (y3.2 = a1) then
        some (!decide (y3.1 = a2))
       else some false : Option (Bool)) fun x7 =>
      bif x7 then
       Option.bind (g_iwith (x6, y3.1)) fun r8 =>
       some r8.1
      else some x6 : Option ((List (Int)))) fun x9 =>
     self1 (x9, IntKind.wrap .i64 (x0.2 + (1 : Int)))
    else some x0.1) ([], (0 : Int)) : Option ((List (Int)))) fun x10 =>
  Option.bind (loopT n (X := (List (Int)) × Int) (B := (List (Int))) (fun self12 x11 =>
    bif decide (x11.2 < (x10.length : Int)) then
     bnd x10.length x11.2 fun n13 =>
     Option.bind x10[n13]? fun y14 =>
     Option.bind (q (a0, y14, a1)) fun r15 =>
     bif decide (x11.1.length + r15.1.length ≤ 4294967296) then
      bif decide ((x11.1 ++ r15.1).length + [a1].length ≤ 4294967296) then
       self12 ((x11.1 ++ r15.1) ++ [a1], IntKind.wrap .i64 (x11.2 + (1 : Int)))
      else none
     else none
    else some x11.1) ([a1], (0 : Int)) : Option ((List (Int)))) fun x16 =>
  some (x16, ()) := by kernel_rfl
/- impl.TourOf -/
def c_iTourOf : TC :=
 (.seq (.rg [o1 6 (.lit [.sl [.i .i64]] [.slice none 0 0]),
   o1 7 (.lit [.b] [.bool false])])
 (.seq (.seq (.join [⟨19, [.b], false⟩] 1047552 none (.rg [o1 10 (.copy 0),
   o3 11 42 [.t 10, .c [.i .i64] [.int .i64 (1)], .c [.i .i64] [.int .i64 (12)]],
   o1 12 (.data .not [.t 11]),
   o1 13 (.copy 12),
   o2 14 (.copy 2) 3 false,
   o2 15 (.copy 0) 3 false,
   o2 16 (.data (.bin .sub) [.t 15, .c (.int .i64 (1))]) 3 false,
   ⟨false, [], [], .call 1 42 [.t 14, .c [.i .i64] [.int .i64 (0)], .t 16] .no, [17], (some 17), some (3, false)⟩,
   o2 18 (.data .not [.t 17]) 3 false,
   ⟨false, [], [], .pick 13 (.c (.bool true)) (.t 18), [19], (some 19), none⟩]))
 (.cond (.t 19)
  (.seq (.rg [o1 6 (.lit [.sl [.i .i64]] [.slice none 0 0]),
    o1 7 (.lit [.b] [.bool false])])
  .ret)
  .skip))
 (.seq (.join [] 2146435776 (some [⟨6, [.sl [.i .i64]], false⟩, ⟨7, [.b], false⟩]) (.seq (.rg [o1 20 (.copy 1),
   o1 21 (.len 20),
   o1 22 (.lit [.i .i64] [.int .i64 (0)])])
 (.block 0 (.loop [⟨22, [.i .i64], false⟩] 2143290048
  (.seq (.rg [o1 23 (.data (.bin .lss) [.t 22, .t 21])])
  (.seq (.cond (.t 23)
   .skip
   (.exit 0))
  (.seq (.block 1 (.seq (.rg [o1 24 (.index 20 (.t 22)),
    o1 25 (.load 20 [(0, 2)] 0 (.t 24) 2 false),
    ⟨false, [], [], .det 2 (.a (.c [.i .i64, .i .i64] [.int .i64 (0), .int .i64 (0)])), [9, 1000000001], (some 9), none⟩,
    o4 1 [9] (.store 9 [] 0 .nil (.t 25))])
  (.seq (.rg [o1 26 (.copy 0),
    o1 27 (.load 9 [] 0 .nil 2 false),
    o3 28 43 [.t 26, .t 27],
    o1 29 (.data .not [.t 28])])
  (.cond (.t 29)
   (.seq (.rg [o1 6 (.lit [.sl [.i .i64]] [.slice none 0 0]),
     o1 7 (.lit [.b] [.bool false])])
   .ret)
   .skip))))
  (.rg [o1 30 (.data (.bin .add) [.t 22, .c (.int .i64 (1))]),
    o1 22 (.copy 30)]))))))))
 (.seq (.seq (.rg [o1 31 (.copy 0),
   o1 32 (.copy 1),
   o3 33 44 [.t 31, .t 32]])
 (.cond (.t 33)
  (.seq (.rg [o1 6 (.lit [.sl [.i .i64]] [.slice none 0 0]),
    o1 7 (.lit [.b] [.bool false])])
  .ret)
  .skip))
 (.seq (.rg [o1 34 (.copy 1),
   o1 35 (.copy 2),
   o3 36 45 [.t 34, .t 35, .c [.i .i64] [.int .i64 (-1)]],
   ⟨false, [], [], .det 2 (.copy 36), [6, 36], (some 6), none⟩,
   o1 7 (.lit [.b] [.bool true])])
 .ret)))))
def s_iTourOf : Sig := ⟨[.rd false [.d], .rd false [.sl (.own none) [.d, .d]], .rd false [.d]], (.tup [(false, 1), (false, 1)] [.sl (.own none) [.d], .d])⟩
noncomputable def E_iTourOf : TEnv := envOf [(42, p_iin), (43, p_iEdgeOk), (44, p_irings), (45, p_iwalk 64)]
noncomputable def f_iTourOf (n : Nat) : Int × (List (Int × Int)) × Int → Option ((List (Int) × Bool) × Unit) := runFn n E_iTourOf c_iTourOf [[.i .i64], [.sl [.i .i64, .i .i64]], [.i .i64]] [.sl [.i .i64], .b] [] [6, 7] .no
noncomputable def g_iTourOf := f_iTourOf BIG
noncomputable def p_iTourOf : TSp := ⟨s_iTourOf, [[.i .i64], [.sl [.i .i64, .i .i64]], [.i .i64]], [.sl [.i .i64], .b], [], Ou.j .no, g_iTourOf⟩
theorem k_iTourOf : chkW PG E_iTourOf 10 s_iTourOf (c_iTourOf.ht 37) .no = some (c_iTourOf.wc E_iTourOf, [6, 7]) := by kernel_rfl
theorem ok_iTourOf : p_iTourOf.Ok PG 10 := mkOk (env_cons ok_iin (env_cons ok_iEdgeOk (env_cons ok_irings (env_cons (ok_iwalk 64) (env_nil PG))))) k_iTourOf (by kernel_rfl)
theorem e_iTourOf (n : Nat) (a0 : Int) (a1 : List (Int × Int)) (a2 : Int) : f_iTourOf n (a0, a1, a2) =
  Option.bind (Option.bind (g_iin (a0, (1 : Int), (12 : Int))) fun r0 =>
   bif !r0.1 then
    some true
   else Option.bind (g_iin (a2, (0 : Int), IntKind.wrap .i64 (a0 - (1 : Int)))) fun r1 =>
   some !r1.1 : Option (Bool)) fun x2 =>
  bif x2 then
   some (([], false), ())
  else Option.bind (loopT n (X := Int) (B := (Unit) ⊕ ((List (Int)) × Bool)) (fun self4 x3 =>
    bif decide (x3 < (a1.length : Int)) then
     bnd a1.length x3 fun n5 =>
     Option.bind a1[n5]? fun y6 =>
     Option.bind (g_iEdgeOk (a0, y6)) fun r7 =>
     bif !r7.1 then
      some (Sum.inr ([], false))
     else self4 (IntKind.wrap .i64 (x3 + (1 : Int)))
    else some (Sum.inl ())) (0 : Int) : Option ((Unit) ⊕ ((List (Int)) × Bool))) fun y => match y with
  | .inl x8 =>
   Option.bind (g_irings (a0, a1)) fun r9 =>
   bif r9.1 then
    some (([], false), ())
   else Option.bind (g_iwalk 64 (a1, a2, (-1 : Int))) fun r10 =>
   some ((r10.1, true), ())
  | .inr x8 =>
   some (x8, ()) := by kernel_rfl
/- laws.sameInts -/
def c_lsameInts : TC :=
 (.seq (.rg [o1 4 (.lit [.b] [.bool false])])
 (.seq (.seq (.rg [o1 6 (.copy 0),
   o1 7 (.len 6),
   o1 8 (.copy 1),
   o1 9 (.len 8),
   o1 10 (.data (.bin .neq) [.t 7, .t 9])])
 (.cond (.t 10)
  (.seq (.rg [o1 4 (.lit [.b] [.bool false])])
  .ret)
  .skip))
 (.seq (.join [] 67106864 (some [⟨4, [.b], false⟩]) (.seq (.rg [o1 5 (.lit [.i .i64] [.int .i64 (0)])])
 (.block 0 (.loop [⟨5, [.i .i64], false⟩] 67106864
  (.seq (.seq (.rg [o1 11 (.copy 5),
    o1 12 (.copy 0),
    o1 13 (.len 12),
    o1 14 (.data (.bin .lss) [.t 11, .t 13])])
  (.cond (.t 14)
   .skip
   (.exit 0)))
  (.seq (.block 1 (.seq (.rg [o1 17 (.copy 0),
    o1 18 (.copy 5),
    o1 19 (.index 17 (.t 18)),
    o1 20 (.load 17 [(0, 1)] 0 (.t 19) 1 false),
    o1 21 (.copy 1),
    o1 22 (.copy 5),
    o1 23 (.index 21 (.t 22)),
    o1 24 (.load 21 [(0, 1)] 0 (.t 23) 1 false),
    o1 25 (.data (.bin .neq) [.t 20, .t 24])])
  (.cond (.t 25)
   (.seq (.rg [o1 4 (.lit [.b] [.bool false])])
   .ret)
   .skip)))
  (.rg [o1 15 (.copy 5),
    o1 16 (.data (.bin .add) [.t 15, .c (.int .i64 (1))]),
    o1 5 (.copy 16)])))))))
 (.seq (.rg [o1 4 (.lit [.b] [.bool true])])
 .ret))))
def s_lsameInts : Sig := ⟨[.rd false [.sl (.own none) [.d]], .rd false [.sl (.own none) [.d]]], (.one false [.d])⟩
noncomputable def E_lsameInts : TEnv := envOf []
noncomputable def f_lsameInts (n : Nat) : List (Int) × List (Int) → Option ((Bool) × Unit) := runFn n E_lsameInts c_lsameInts [[.sl [.i .i64]], [.sl [.i .i64]]] [.b] [] [4] .no
noncomputable def g_lsameInts := f_lsameInts BIG
noncomputable def p_lsameInts : TSp := ⟨s_lsameInts, [[.sl [.i .i64]], [.sl [.i .i64]]], [.b], [], Ou.j .no, g_lsameInts⟩
theorem k_lsameInts : chkW PG E_lsameInts 12 s_lsameInts (c_lsameInts.ht 26) .no = some (c_lsameInts.wc E_lsameInts, [4]) := by kernel_rfl
theorem ok_lsameInts : p_lsameInts.Ok PG 12 := mkOk (env_nil PG) k_lsameInts (by kernel_rfl)
theorem e_lsameInts (n : Nat) (a0 : List (Int)) (a1 : List (Int)) : f_lsameInts n (a0, a1) =
  bif !decide ((a0.length : Int) = (a1.length : Int)) then
   some (false, ())
  else Option.bind (loopT n (X := Int) (B := (Unit) ⊕ (Bool)) (fun self1 x0 =>
    bif decide (x0 < (a0.length : Int)) then
     bnd a0.length x0 fun n2 =>
     Option.bind a0[n2]? fun y3 =>
     bnd a1.length x0 fun n4 =>
     Option.bind a1[n4]? fun y5 =>
     bif !decide (y3 = y5) then
      some (Sum.inr false)
     else self1 (IntKind.wrap .i64 (x0 + (1 : Int)))
    else some (Sum.inl ())) (0 : Int) : Option ((Unit) ⊕ (Bool))) fun y => match y with
  | .inl x6 =>
   some (true, ())
  | .inr x6 =>
   some (x6, ()) := by kernel_rfl
/- impl.VertsOf -/
def c_iVertsOf : TC :=
 (.seq (.rg [o1 2 (.lit [.sl [.i .i64]] [.slice none 0 0])])
 (.seq (.rg [o1 3 (.lit [.sl [.i .i64]] [.slice none 0 0])])
 (.seq (.join [⟨3, [.sl [.i .i64]], false⟩] 65512 none (.seq (.rg [o1 6 (.copy 0),
   o1 7 (.len 6),
   o1 8 (.lit [.i .i64] [.int .i64 (0)])])
 (.block 0 (.loop [⟨3, [.sl [.i .i64]], false⟩, ⟨8, [.i .i64], false⟩] 65320
  (.seq (.rg [o1 9 (.data (.bin .lss) [.t 8, .t 7])])
  (.seq (.cond (.t 9)
   .skip
   (.exit 0))
  (.seq (.block 1 (.seq (.rg [o1 10 (.index 6 (.t 8)),
    o1 11 (.load 6 [(0, 1)] 0 (.t 10) 1 false),
    o1 5 (.copy 11)])
  (.rg [⟨false, [], [], .det 2 (.copy 3), [12, 3], (some 12), none⟩,
    o1 13 (.copy 5),
    ⟨false, [], [], .call 2 49 [.t 12, .t 13] .no, [14, 12], (some 14), none⟩,
    ⟨false, [], [], .det 2 (.copy 14), [3, 14], (some 3), none⟩])))
  (.rg [o1 15 (.data (.bin .add) [.t 8, .c (.int .i64 (1))]),
    o1 8 (.copy 15)]))))))))
 (.seq (.rg [⟨false, [], [], .det 2 (.copy 3), [16, 3], (some 16), none⟩,
   ⟨false, [], [], .det 2 (.copy 16), [2, 16], (some 2), none⟩])
 .ret))))
def s_iVertsOf : Sig := ⟨[.rd false [.sl (.own none) [.d]]], (.one false [.sl (.own none) [.d]])⟩
noncomputable def E_iVertsOf : TEnv := envOf [(49, p_iwith)]
noncomputable def f_iVertsOf (n : Nat) : List (Int) → Option ((List (Int)) × Unit) := runFn n E_iVertsOf c_iVertsOf [[.sl [.i .i64]]] [.sl [.i .i64]] [] [2] .no
noncomputable def g_iVertsOf := f_iVertsOf BIG
noncomputable def p_iVertsOf : TSp := ⟨s_iVertsOf, [[.sl [.i .i64]]], [.sl [.i .i64]], [], Ou.j .no, g_iVertsOf⟩
theorem k_iVertsOf : chkW PG E_iVertsOf 13 s_iVertsOf (c_iVertsOf.ht 17) .no = some (c_iVertsOf.wc E_iVertsOf, [2]) := by kernel_rfl
theorem ok_iVertsOf : p_iVertsOf.Ok PG 13 := mkOk (env_cons ok_iwith (env_nil PG)) k_iVertsOf (by kernel_rfl)
theorem e_iVertsOf (n : Nat) (a0 : List (Int)) : f_iVertsOf n a0 =
  Option.bind (loopT n (X := (List (Int)) × Int) (B := (List (Int))) (fun self1 x0 =>
    bif decide (x0.2 < (a0.length : Int)) then
     bnd a0.length x0.2 fun n2 =>
     Option.bind a0[n2]? fun y3 =>
     Option.bind (g_iwith (x0.1, y3)) fun r4 =>
     self1 (r4.1, IntKind.wrap .i64 (x0.2 + (1 : Int)))
    else some x0.1) ([], (0 : Int)) : Option ((List (Int)))) fun x5 =>
  some (x5, ()) := by kernel_rfl
/- laws.FnTourOf -/
def c_lFnTourOf : TC :=
 (.seq (.rg [o1 2 (.lit [.b] [.bool false])])
 (.seq (.seq (.rg [o1 18 (.copy 0),
   o3 19 7 [.t 18]])
 (.cond (.t 19)
  (.seq (.rg [o1 2 (.lit [.b] [.bool true])])
  .ret)
  .skip))
 (.seq (.rg [o1 21 (.copy 0),
   o3 22 8 [.t 21],
   ⟨false, [], [], .det 2 (.copy 22), [20, 22], (some 20), none⟩,
   o1 23 (.ext 20 0 1),
   o1 24 (.ext 20 1 1),
   o1 3 (.copy 23),
   o1 4 (.copy 24)])
 (.seq (.rg [o1 25 (.sli [.i .i64, .i .i64] []),
   ⟨false, [], [], .det 2 (.copy 25), [5, 25], (some 5), none⟩])
 (.seq (.join [⟨5, [.sl [.i .i64, .i .i64]], false⟩] 2361183241434755498080 none (.seq (.rg [o1 6 (.lit [.i .i64] [.int .i64 (0)])])
 (.block 0 (.loop [⟨5, [.sl [.i .i64, .i .i64]], false⟩, ⟨6, [.i .i64], false⟩] 2361183241434755498080
  (.seq (.seq (.rg [o1 26 (.copy 6),
    o1 27 (.data (.bin .add) [.t 26, .c (.int .i64 (1))]),
    o1 28 (.copy 3),
    o1 29 (.len 28),
    o1 30 (.data (.bin .lss) [.t 27, .t 29])])
  (.cond (.t 30)
   .skip
   (.exit 0)))
  (.seq (.join [⟨5, [.sl [.i .i64, .i .i64]], false⟩] 2361183241426232672288 none (.block 1 (.seq (.join [⟨57, [.b], false⟩] 288230367561777152 none (.rg [o1 33 (.copy 3),
    o1 34 (.copy 6),
    o1 35 (.index 33 (.t 34)),
    o1 36 (.load 33 [(0, 1)] 0 (.t 35) 1 false),
    o1 37 (.copy 3),
    o1 38 (.copy 6),
    o1 39 (.data (.bin .add) [.t 38, .c (.int .i64 (1))]),
    o1 40 (.index 37 (.t 39)),
    o1 41 (.load 37 [(0, 1)] 0 (.t 40) 1 false),
    o1 42 (.data (.bin .lss) [.t 36, .t 41]),
    o1 43 (.copy 42),
    ⟨true, [], [], .det 1 (.copy 5), [44], (some 44), some (10, true)⟩,
    o2 45 (.copy 3) 10 true,
    o2 46 (.copy 6) 10 true,
    o2 47 (.index 45 (.t 46)) 10 true,
    o2 48 (.load 45 [(0, 1)] 0 (.t 47) 1 false) 10 true,
    o2 49 (.copy 3) 10 true,
    o2 50 (.copy 6) 10 true,
    o2 51 (.data (.bin .add) [.t 50, .c (.int .i64 (1))]) 10 true,
    o2 52 (.index 49 (.t 51)) 10 true,
    o2 53 (.load 49 [(0, 1)] 0 (.t 52) 1 false) 10 true,
    o2 54 (.build [.i .i64, .i .i64] [(0, .t 48), (1, .t 53)]) 10 true,
    ⟨false, [], [], .call 1 9 [.t 44, .t 54] .no, [55], (some 55), some (10, true)⟩,
    o2 56 (.data .not [.t 55]) 10 true,
    ⟨false, [], [], .pick 43 (.t 56) (.c (.bool false)), [57], (some 57), none⟩]))
  (.cond (.t 57)
   (.rg [⟨false, [], [], .det 2 (.copy 5), [58, 5], (some 58), none⟩,
     o1 59 (.copy 3),
     o1 60 (.copy 6),
     o1 61 (.index 59 (.t 60)),
     o1 62 (.load 59 [(0, 1)] 0 (.t 61) 1 false),
     o1 63 (.copy 3),
     o1 64 (.copy 6),
     o1 65 (.data (.bin .add) [.t 64, .c (.int .i64 (1))]),
     o1 66 (.index 63 (.t 65)),
     o1 67 (.load 63 [(0, 1)] 0 (.t 66) 1 false),
     o1 68 (.build [.i .i64, .i .i64] [(0, .t 62), (1, .t 67)]),
     o1 69 (.sli [.i .i64, .i .i64] [.t 68]),
     ⟨false, [], [], .det 2 (.app (some 58) 69), [70, 58], (some 70), none⟩,
     ⟨false, [], [], .det 2 (.copy 70), [5, 70], (some 5), none⟩])
   .skip))))
  (.rg [o1 31 (.copy 6),
    o1 32 (.data (.bin .add) [.t 31, .c (.int .i64 (1))]),
    o1 6 (.copy 32)])))))))
 (.seq (.rg [⟨true, [], [], .det 1 (.copy 5), [72], (some 72), none⟩,
   o1 73 (.copy 3),
   o1 74 (.index 73 (.c (.int .i64 (0)))),
   o1 75 (.load 73 [(0, 1)] 0 (.t 74) 1 false),
   o3 76 10 [.c [.i .i64] [.int .i64 (12)], .t 72, .t 75],
   ⟨false, [], [], .det 2 (.copy 76), [71, 76], (some 71), none⟩,
   ⟨false, [], [], .det 2 (.ext 71 0 1), [77, 71], (some 77), none⟩,
   o1 78 (.ext 71 1 1),
   ⟨false, [], [], .det 2 (.copy 77), [7, 77], (some 7), none⟩,
   o1 8 (.copy 78)])
 (.seq (.rg [⟨true, [], [], .det 1 (.copy 5), [80], (some 80), none⟩,
   o1 81 (.copy 3),
   o1 82 (.index 81 (.c (.int .i64 (0)))),
   o1 83 (.load 81 [(0, 1)] 0 (.t 82) 1 false),
   o3 84 11 [.c [.i .i64] [.int .i64 (12)], .t 80, .t 83],
   ⟨false, [], [], .det 2 (.copy 84), [79, 84], (some 79), none⟩,
   ⟨false, [], [], .det 2 (.ext 79 0 1), [85, 79], (some 85), none⟩,
   o1 86 (.ext 79 1 1),
   ⟨false, [], [], .det 2 (.copy 85), [9, 85], (some 9), none⟩,
   o1 10 (.copy 86)])
 (.seq (.seq (.join [⟨111, [.b], false⟩] 5192296703792322717857961966830208 none (.rg [o1 87 (.copy 8),
   o1 88 (.data .not [.t 87]),
   o1 89 (.copy 88),
   ⟨true, [], [], .det 1 (.copy 7), [90], (some 90), some (2, false)⟩,
   ⟨false, [], [], .det 2 (.copy 9), [91, 9], (some 91), some (2, false)⟩,
   ⟨false, [], [], .call 1 12 [.t 90, .t 91] .no, [92], (some 92), some (2, false)⟩,
   o2 93 (.data .not [.t 92]) 2 false,
   ⟨false, [], [], .pick 89 (.c (.bool true)) (.t 93), [94], (some 94), none⟩,
   o1 95 (.copy 94),
   ⟨true, [], [], .det 1 (.copy 7), [96], (some 96), some (8, false)⟩,
   ⟨false, [], [], .call 1 13 [.t 96] .no, [97], (some 97), some (8, false)⟩,
   o2 98 (.copy 3) 8 false,
   ⟨false, [], [], .call 1 13 [.t 98] .no, [99], (some 99), some (8, false)⟩,
   ⟨false, [], [], .call 1 12 [.t 97, .t 99] .no, [100], (some 100), some (8, false)⟩,
   o2 101 (.data .not [.t 100]) 8 false,
   ⟨false, [], [], .pick 95 (.c (.bool true)) (.t 101), [102], (some 102), none⟩,
   o1 103 (.copy 102),
   ⟨false, [], [], .det 2 (.copy 7), [104, 7, 96, 90], (some 104), some (16, false)⟩,
   o2 105 (.len 104) 16 false,
   ⟨true, [], [], .det 1 (.copy 5), [106], (some 106), some (16, false)⟩,
   o2 107 (.len 106) 16 false,
   o2 108 (.data (.bin .mul) [.c (.int .i64 (2)), .t 107]) 16 false,
   o2 109 (.data (.bin .add) [.t 108, .c (.int .i64 (1))]) 16 false,
   o2 110 (.data (.bin .neq) [.t 105, .t 109]) 16 false,
   ⟨false, [], [], .pick 103 (.c (.bool true)) (.t 110), [111], (some 111), none⟩]))
 (.cond (.t 111)
  (.seq (.rg [o1 2 (.lit [.b] [.bool false])])
  .ret)
  .skip))
 (.seq (.seq (.rg [⟨true, [], [], .det 1 (.copy 5), [112], (some 112), none⟩,
   o1 113 (.len 112),
   o1 114 (.data (.bin .lss) [.t 113, .c (.int .i64 (2))])])
 (.cond (.t 114)
  (.seq (.rg [o1 2 (.lit [.b] [.bool true])])
  .ret)
  .skip))
 (.seq (.rg [o1 115 (.copy 3),
   o3 116 13 [.t 115],
   ⟨false, [], [], .det 2 (.copy 116), [11, 116], (some 11), none⟩])
 (.seq (.rg [o1 117 (.sli [.i .i64, .i .i64] []),
   ⟨true, [], [], .det 1 (.copy 5), [118], (some 118), none⟩,
   ⟨false, [], [], .det 2 (.app (some 117) 118), [119, 117], (some 119), none⟩,
   ⟨false, [], [], .det 2 (.copy 119), [12, 119], (some 12), none⟩])
 (.seq (.join [⟨12, [.sl [.i .i64, .i .i64]], false⟩] 365375409331396501555136292306166947853702852608 none (.seq (.rg [o1 13 (.lit [.i .i64] [.int .i64 (0)])])
 (.block 2 (.loop [⟨12, [.sl [.i .i64, .i .i64]], false⟩, ⟨13, [.i .i64], false⟩] 365375409331396501555136292306166947853702852608
  (.seq (.seq (.rg [o1 120 (.copy 13),
    ⟨true, [], [], .det 1 (.copy 11), [121], (some 121), none⟩,
    o1 122 (.len 121),
    o1 123 (.data (.bin .lss) [.t 120, .t 122])])
  (.cond (.t 123)
   .skip
   (.exit 2)))
  (.seq (.join [⟨12, [.sl [.i .i64, .i .i64]], false⟩] 365375409247655137820686592313227103056041136128 none (.block 3 (.seq (.rg [o1 126 (.copy 13),
    o1 127 (.data (.bin .add) [.t 126, .c (.int .i64 (1))]),
    o1 14 (.copy 127)])
  (.block 4 (.loop [⟨12, [.sl [.i .i64, .i .i64]], false⟩, ⟨14, [.i .i64], false⟩] 365375408992443362629982744715696147482214977536
   (.seq (.seq (.rg [o1 128 (.copy 14),
     ⟨true, [], [], .det 1 (.copy 11), [129], (some 129), none⟩,
     o1 130 (.len 129),
     o1 131 (.data (.bin .lss) [.t 128, .t 130])])
   (.cond (.t 131)
    .skip
    (.exit 4)))
   (.seq (.join [⟨12, [.sl [.i .i64, .i .i64]], false⟩] 365375387554654246610859546523095879280817639424 none (.block 5 (.seq (.rg [⟨true, [], [], .det 1 (.copy 11), [134], (some 134), none⟩,
     o1 135 (.copy 13),
     ⟨false, [], [1000000001], .det 1 (.index 134 (.t 135)), [136], (some 136), none⟩,
     ⟨false, [], [1000000001], .det 1 (.load 11 [(0, 1)] 0 (.t 136) 1 false), [137], (some 137), none⟩,
     ⟨true, [], [], .det 1 (.copy 11), [138], (some 138), none⟩,
     o1 139 (.copy 14),
     ⟨false, [], [1000000001], .det 1 (.index 138 (.t 139)), [140], (some 140), none⟩,
     ⟨false, [], [1000000001], .det 1 (.load 11 [(0, 1)] 0 (.t 140) 1 false), [141], (some 141), none⟩,
     ⟨false, [], [1000000001], .det 1 (.build [.i .i64, .i .i64] [(0, .t 137), (1, .t 141)]), [142], (some 142), none⟩,
     ⟨false, [], [], .det 2 (.a (.c [.i .i64, .i .i64] [.int .i64 (0), .int .i64 (0)])), [15, 1000000001], (some 15), none⟩,
     o4 1 [15] (.store 15 [] 0 .nil (.t 142))])
   (.seq (.join [⟨153, [.b], false⟩] 22824812710696092785361807652055598001370955776 none (.rg [⟨true, [], [], .det 1 (.copy 12), [143], (some 143), none⟩,
     o1 144 (.load 15 [] 0 .nil 2 false),
     o3 145 9 [.t 143, .t 144],
     o1 146 (.data .not [.t 145]),
     o1 147 (.copy 146),
     ⟨true, [], [], .det 1 (.copy 12), [148], (some 148), some (4, true)⟩,
     o2 149 (.len 148) 4 true,
     ⟨true, [], [], .det 1 (.copy 5), [150], (some 150), some (4, true)⟩,
     o2 151 (.len 150) 4 true,
     o2 152 (.data (.bin .eql) [.t 149, .t 151]) 4 true,
     ⟨false, [], [], .pick 147 (.t 152) (.c (.bool false)), [153], (some 153), none⟩]))
   (.cond (.t 153)
    (.rg [⟨false, [], [], .det 2 (.copy 12), [154, 12, 143], (some 154), none⟩,
      o1 155 (.load 15 [] 0 .nil 2 false),
      o1 156 (.sli [.i .i64, .i .i64] [.t 155]),
      ⟨false, [], [], .det 2 (.app (some 154) 156), [157, 154], (some 157), none⟩,
      ⟨false, [], [], .det 2 (.copy 157), [12, 157, 143], (some 12), none⟩])
    .skip)))))
   (.rg [o1 132 (.copy 14),
     o1 133 (.data (.bin .add) [.t 132, .c (.int .i64 (1))]),
     o1 14 (.copy 133)]))))))))
  (.rg [o1 124 (.copy 13),
    o1 125 (.data (.bin .add) [.t 124, .c (.int .i64 (1))]),
    o1 13 (.copy 125)])))))))
 (.seq (.rg [⟨false, [], [], .det 2 (.copy 12), [159, 12], (some 159), none⟩,
   o1 160 (.copy 3),
   o1 161 (.index 160 (.c (.int .i64 (0)))),
   o1 162 (.load 160 [(0, 1)] 0 (.t 161) 1 false),
   o3 163 10 [.c [.i .i64] [.int .i64 (12)], .t 159, .t 162],
   ⟨false, [], [], .det 2 (.copy 163), [158, 163], (some 158), none⟩,
   ⟨false, [], [], .det 2 (.ext 158 0 1), [164, 158], (some 164), none⟩,
   o1 165 (.ext 158 1 1),
   ⟨false, [], [], .det 2 (.copy 164), [16, 164], (some 16), none⟩,
   o1 17 (.copy 165)])
 (.seq (.rg [o1 166 (.copy 17),
   o1 167 (.data .not [.t 166]),
   o1 2 (.copy 167)])
 .ret))))))))))))))
def s_lFnTourOf : Sig := ⟨[.rd false [.sl (.own none) [.d]]], (.one false [.d])⟩
noncomputable def E_lFnTourOf : TEnv := envOf [(7, p_lbig), (8, p_sDrawRightTour), (9, p_lhas), (10, p_iTourOf), (11, p_sTourOf), (12, p_lsameInts), (13, p_iVertsOf)]
noncomputable def f_lFnTourOf (n : Nat) : List (Int) → Option ((Bool) × Unit) := runFn n E_lFnTourOf c_lFnTourOf [[.sl [.i .u8]]] [.b] [] [2] .no
noncomputable def g_lFnTourOf := f_lFnTourOf BIG
noncomputable def p_lFnTourOf : TSp := ⟨s_lFnTourOf, [[.sl [.i .u8]]], [.b], [], Ou.j .no, g_lFnTourOf⟩
theorem k_lFnTourOf : chkW PG E_lFnTourOf 3 s_lFnTourOf (c_lFnTourOf.ht 168) .no = some (c_lFnTourOf.wc E_lFnTourOf, [2]) := by kernel_rfl
theorem ok_lFnTourOf : p_lFnTourOf.Ok PG 3 := mkOk (env_cons ok_lbig (env_cons ok_sDrawRightTour (env_cons ok_lhas (env_cons ok_iTourOf (env_cons ok_sTourOf (env_cons ok_lsameInts (env_cons ok_iVertsOf (env_nil PG)))))))) k_lFnTourOf (by kernel_rfl)
theorem e_lFnTourOf (n : Nat) (a0 : List (Int)) : f_lFnTourOf n a0 =
  Option.bind (g_lbig a0) fun r0 =>
  bif r0.1 then
   some (true, ())
  else Option.bind (g_sDrawRightTour a0) fun r1 =>
  Option.bind (loopT n (X := (List (Int × Int)) × Int) (B := (List (Int × Int))) (fun self3 x2 =>
    bif decide ((IntKind.wrap .i64 (x2.2 + (1 : Int))) < (r1.1.1.length : Int)) then
     Option.bind (Option.bind (bnd r1.1.1.length x2.2 fun n4 =>
       Option.bind r1.1.1[n4]? fun y5 =>
       bnd r1.1.1.length (IntKind.wrap .i64 (x2.2 + (1 : Int))) fun n6 =>
       Option.bind r1.1.1[n6]? fun y7 =>
       bif decide (y5 < y7) then
        bnd r1.1.1.length x2.2 fun n8 =>
        Option.bind r1.1.1[n8]? fun y9 =>
        bnd r1.1.1.length (IntKind.wrap .i64 (x2.2 + (1 : Int))) fun n10 =>
        Option.bind r1.1.1[n10]? fun y11 =>
        Option.bind (g_lhas (x2.1, (y9, y11))) fun r12 =>
        some !r12.1
       else some false : Option (Bool)) fun x13 =>
      bif x13 then
       bnd r1.1.1.length x2.2 fun n14 =>
       Option.bind r1.1.1[n14]? fun y15 =>
       bnd r1.1.1.length (IntKind.wrap .i64 (x2.2 + (1 : Int))) fun n16 =>
       Option.bind r1.1.1[n16]? fun y17 =>
       bif decide (x2.1.length + ([(y15, y17)]).length ≤ 4294967296) then
        some (x2.1 ++ ([(y15, y17)]))
       else none
      else some x2.1 : Option ((List (Int × Int)))) fun x18 =>
     self3 (x18, IntKind.wrap .i64 (x2.2 + (1 : Int)))
    else some x2.1) ([], (0 : Int)) : Option ((List (Int × Int)))) fun x19 =>
  bnd r1.1.1.length (0 : Int) fun n20 =>
  Option.bind r1.1.1[n20]? fun y21 =>
  Option.bind (g_iTourOf ((12 : Int), x19, y21)) fun r22 =>
  bnd r1.1.1.length (0 : Int) fun n23 =>
  Option.bind r1.1.1[n23]? fun y24 =>
  Option.bind (g_sTourOf ((12 : Int), x19, y24)) fun r25 =>
  Option.bind (bif !r22.1.2 then
    some true
   else Option.bind (g_lsameInts (r22.1.1, r25.1.1)) fun r26 =>
   bif !r26.1 then
    some true
   else Option.bind (g_iVertsOf r22.1.1) fun r27 =>
   Option.bind (g_iVertsOf r1.1.1) fun r28 =>
   Option.bind (g_lsameInts (r27.1, r28.1)) fun r29 =>
   bif !r29.1 then
    some true
   else some (!decide ((r22.1.1.length : Int) = (IntKind.wrap .i64 ((IntKind.wrap .i64 ((2 : Int) * (x19.length : Int))) + (1 : Int))))) : Option (Bool)) fun x30 =>
  bif x30 then
   some (false, ())
  else bif decide ((x19.length : Int) < (2 : Int)) then
   some (true, ())
  else Option.bind (g_iVertsOf r1.1.1) fun r31 =>
  bif decide (0 + x19.length ≤ 4294967296) then
   Option.bind (loopT n (X := (List (Int × Int)) × Int) (B := (List (Int × Int))) (fun self33 x32 =>
     bif decide (x32.2 < (r31.1.length : Int)) then
      Option.bind (loopT n (X := (List (Int × Int)) × Int) (B := (List (Int × Int))) (fun self35 x34 =>
        bif decide (x34.2 < (r31.1.length : Int)) then
         Option.bind (bnd r31.1.length x32.2 fun n36 =>
          Option.bind r31.1[n36]? fun y37 =>
          bnd r31.1.length x34.2 fun n38 =>
          Option.bind r31.1[n38]? fun y39 =>
          Option.bind (Option.bind (g_lhas (x34.1, (y37, y39))) fun r40 =>
           bif !r40.1 then
            some (decide ((x34.1.length : Int) = (x19.length : Int)))
           else some false : Option (Bool)) fun x41 =>
          bif x41 then
           bif decide (x34.1.length + ([(y37, y39)]).length ≤ 4294967296) then
            some (x34.1 ++ ([(y37, y39)]))
           else none
          else some x34.1 : Option ((List (Int × Int)))) fun x42 =>
         self35 (x42, IntKind.wrap .i64 (x34.2 + (1 : Int)))
        else some x34.1) (x32.1, IntKind.wrap .i64 (x32.2 + (1 : Int))) : Option ((List (Int × Int)))) fun x43 =>
      self33 (x43, IntKind.wrap .i64 (x32.2 + (1 : Int)))
     else some x32.1) ([] ++ x19, (0 : Int)) : Option ((List (Int × Int)))) fun x44 =>
   bnd r1.1.1.length (0 : Int) fun n45 =>
   Option.bind r1.1.1[n45]? fun y46 =>
   Option.bind (g_iTourOf ((12 : Int), x44, y46)) fun r47 =>
   some (!r47.1.2, ())
  else none := by kernel_rfl
/- spec.l05SameInts -/
def c_sl05SameInts : TC :=
 (.seq (.rg [o1 4 (.lit [.b] [.bool false])])
 (.seq (.seq (.rg [o1 6 (.copy 0),
   o1 7 (.len 6),
   o1 8 (.copy 1),
   o1 9 (.len 8),
   o1 10 (.data (.bin .neq) [.t 7, .t 9])])
 (.cond (.t 10)
  (.seq (.rg [o1 4 (.lit [.b] [.bool false])])
  .ret)
  .skip))
 (.seq (.join [] 67106864 (some [⟨4, [.b], false⟩]) (.seq (.rg [o1 5 (.lit [.i .i64] [.int .i64 (0)])])
 (.block 0 (.loop [⟨5, [.i .i64], false⟩] 67106864
  (.seq (.seq (.rg [o1 11 (.copy 5),
    o1 12 (.copy 0),
    o1 13 (.len 12),
    o1 14 (.data (.bin .lss) [.t 11, .t 13])])
  (.cond (.t 14)
   .skip
   (.exit 0)))
  (.seq (.block 1 (.seq (.rg [o1 17 (.copy 0),
    o1 18 (.copy 5),
    o1 19 (.index 17 (.t 18)),
    o1 20 (.load 17 [(0, 1)] 0 (.t 19) 1 false),
    o1 21 (.copy 1),
    o1 22 (.copy 5),
    o1 23 (.index 21 (.t 22)),
    o1 24 (.load 21 [(0, 1)] 0 (.t 23) 1 false),
    o1 25 (.data (.bin .neq) [.t 20, .t 24])])
  (.cond (.t 25)
   (.seq (.rg [o1 4 (.lit [.b] [.bool false])])
   .ret)
   .skip)))
  (.rg [o1 15 (.copy 5),
    o1 16 (.data (.bin .add) [.t 15, .c (.int .i64 (1))]),
    o1 5 (.copy 16)])))))))
 (.seq (.rg [o1 4 (.lit [.b] [.bool true])])
 .ret))))
def s_sl05SameInts : Sig := ⟨[.rd false [.sl (.own none) [.d]], .rd false [.sl (.own none) [.d]]], (.one false [.d])⟩
noncomputable def E_sl05SameInts : TEnv := envOf []
noncomputable def f_sl05SameInts (n : Nat) : List (Int) × List (Int) → Option ((Bool) × Unit) := runFn n E_sl05SameInts c_sl05SameInts [[.sl [.i .i64]], [.sl [.i .i64]]] [.b] [] [4] .no
noncomputable def g_sl05SameInts := f_sl05SameInts BIG
noncomputable def p_sl05SameInts : TSp := ⟨s_sl05SameInts, [[.sl [.i .i64]], [.sl [.i .i64]]], [.b], [], Ou.j .no, g_sl05SameInts⟩
theorem k_sl05SameInts : chkW PG E_sl05SameInts 89 s_sl05SameInts (c_sl05SameInts.ht 26) .no = some (c_sl05SameInts.wc E_sl05SameInts, [4]) := by kernel_rfl
theorem ok_sl05SameInts : p_sl05SameInts.Ok PG 89 := mkOk (env_nil PG) k_sl05SameInts (by kernel_rfl)
theorem e_sl05SameInts (n : Nat) (a0 : List (Int)) (a1 : List (Int)) : f_sl05SameInts n (a0, a1) =
  bif !decide ((a0.length : Int) = (a1.length : Int)) then
   some (false, ())
  else Option.bind (loopT n (X := Int) (B := (Unit) ⊕ (Bool)) (fun self1 x0 =>
    bif decide (x0 < (a0.length : Int)) then
     bnd a0.length x0 fun n2 =>
     Option.bind a0[n2]? fun y3 =>
     bnd a1.length x0 fun n4 =>
     Option.bind a1[n4]? fun y5 =>
     bif !decide (y3 = y5) then
      some (Sum.inr false)
     else self1 (IntKind.wrap .i64 (x0 + (1 : Int)))
    else some (Sum.inl ())) (0 : Int) : Option ((Unit) ⊕ (Bool))) fun y => match y with
  | .inl x6 =>
   some (true, ())
  | .inr x6 =>
   some (x6, ()) := by kernel_rfl
end Go.Fw
