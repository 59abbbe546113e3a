/- The given functions, as what they compute; each is shown to be what the code does. No conditions. -/
import Derived.Test.YtjicinmnfkinhaaG5
import Derived.Test.YtjicinmnfkinhaaProg
set_option linter.unusedVariables false
set_option linter.unusedSimpArgs false
set_option linter.unusedSectionVars false
namespace Go.Fw
noncomputable abbrev PG := Go.Proofs.Try.prog
def o2 (d : Nat) (e : ED) (j : Nat) (b : Bool) : TO := ⟨false, [], [], .det 1 e, [d], some d, some (j, b)⟩
def o3 (d : Nat) (K : FuncId) (gets : List OY) : TO := ⟨false, [], [], .call 1 K gets .no, [d], some d, none⟩
def o4 (n : Nat) (ds : List Nat) (e : ED) : TO := ⟨false, [], [], .det n e, ds, none, none⟩
end Go.Fw
namespace Go.Fw
/- laws.big -/
def c_lbig : TC :=
 (.seq (.rg [o1 2 (.lit [.b] [.bool false])])
 (.seq (.rg [o1 3 (.copy 0),
   o1 4 (.len 3),
   o1 5 (.data (.bin .gtr) [.t 4, .c (.int .i64 (1048576))]),
   o1 2 (.copy 5)])
 .ret))
def s_lbig : Sig := ⟨[.rd false [.sl (.own none) [.d]]], (.one false [.d])⟩
noncomputable def E_lbig : TEnv := envOf []
noncomputable def f_lbig (n : Nat) : List (Int) → Option ((Bool) × Unit) := runFn n E_lbig c_lbig [[.sl [.i .u8]]] [.b] [] [2] .no
noncomputable def g_lbig := f_lbig BIG
noncomputable def p_lbig : TSp := ⟨s_lbig, [[.sl [.i .u8]]], [.b], [], Ou.j .no, g_lbig⟩
theorem k_lbig : chkW PG E_lbig 5 s_lbig (c_lbig.ht 6) .no = some (c_lbig.wc E_lbig, [2]) := by kernel_rfl
theorem ok_lbig : p_lbig.Ok PG 5 := mkOk (env_nil PG) k_lbig (by kernel_rfl)
theorem e_lbig (n : Nat) (a0 : List (Int)) : f_lbig n a0 =
  some (decide ((1048576 : Int) < (a0.length : Int)), ()) := by kernel_rfl
/- spec.l01New -/
def c_sl01New : TC :=
 (.seq (.rg [o1 2 (.nl)])
 (.seq (.rg [o1 5 (.copy 0),
   o1 6 (.len 5),
   o1 7 (.data (.bin .add) [.c (.int .i64 (13501)), .t 6]),
   o1 3 (.copy 7)])
 (.seq (.join [⟨3, [.i .i64], false⟩] 268435224 none (.seq (.rg [o1 4 (.lit [.i .i64] [.int .i64 (0)])])
 (.block 0 (.loop [⟨3, [.i .i64], false⟩, ⟨4, [.i .i64], false⟩] 268435224
  (.seq (.seq (.join [⟨15, [.b], false⟩] 65280 none (.rg [o1 8 (.copy 4),
    o1 9 (.copy 0),
    o1 10 (.len 9),
    o1 11 (.data (.bin .lss) [.t 8, .t 10]),
    o1 12 (.copy 11),
    o2 13 (.copy 4) 4 true,
    o2 14 (.data (.bin .lss) [.t 13, .c (.int .i64 (4000))]) 4 true,
    ⟨false, [], [], .pick 12 (.t 14) (.c (.bool false)), [15], (some 15), none⟩]))
  (.cond (.t 15)
   .skip
   (.exit 0)))
  (.seq (.block 1 (.rg [o1 18 (.copy 3),
    o1 19 (.data (.bin .mul) [.t 18, .c (.int .i64 (131))]),
    o1 20 (.copy 0),
    o1 21 (.copy 4),
    o1 22 (.index 20 (.t 21)),
    o1 23 (.load 20 [(0, 1)] 0 (.t 22) 1 false),
    o1 24 (.data (.conv .i64) [.t 23]),
    o1 25 (.data (.bin .add) [.t 19, .t 24]),
    o1 26 (.data (.bin .add) [.t 25, .c (.int .i64 (7))]),
    o1 27 (.data (.bin .and) [.t 26, .c (.int .i64 (1073741823))]),
    o1 3 (.copy 27)]))
  (.rg [o1 16 (.copy 4),
    o1 17 (.data (.bin .add) [.t 16, .c (.int .i64 (1))]),
    o1 4 (.copy 17)])))))))
 (.seq (.rg [o1 28 (.copy 0),
   o1 29 (.copy 3),
   o1 30 (.build [.sl [.i .u8], .i .i64, .i .i64] [(0, .t 28), (2, .t 29)]),
   o1 31 (.a (.t 30)),
   ⟨true, [], [], .det 2 (.copy 31), [2, 31], (some 2), none⟩])
 .ret))))
def s_sl01New : Sig := ⟨[.rd false [.sl (.own none) [.d]]], (.bx [.sl (.ro [0]) [.d], .d, .d])⟩
noncomputable def E_sl01New : TEnv := envOf []
noncomputable def f_sl01New (n : Nat) : List (Int) → Option ((List (Int) × Int × Int) × Unit) := runFn n E_sl01New c_sl01New [[.sl [.i .u8]]] [.sl [.i .u8], .i .i64, .i .i64] [] [2] .no
noncomputable def g_sl01New := f_sl01New BIG
noncomputable def p_sl01New : TSp := ⟨s_sl01New, [[.sl [.i .u8]]], [.sl [.i .u8], .i .i64, .i .i64], [], Ou.j .no, g_sl01New⟩
theorem k_sl01New : chkW PG E_sl01New 22 s_sl01New (c_sl01New.ht 32) .no = some (c_sl01New.wc E_sl01New, [2]) := by kernel_rfl
theorem ok_sl01New : p_sl01New.Ok PG 22 := mkOk (env_nil PG) k_sl01New (by kernel_rfl)
theorem e_sl01New (n : Nat) (a0 : List (Int)) : f_sl01New n a0 =
  Option.bind (loopT n (X := Int × Int) (B := Int) (fun self1 x0 =>
    Option.bind (bif decide (x0.2 < (a0.length : Int)) then
      some (decide (x0.2 < (4000 : Int)))
     else some false : Option (Bool)) fun x2 =>
    bif x2 then
     bnd a0.length x0.2 fun n3 =>
     Option.bind a0[n3]? fun y4 =>
     self1 (bits .and .i64 (IntKind.wrap .i64 ((IntKind.wrap .i64 ((IntKind.wrap .i64 (x0.1 * (131 : Int))) + (IntKind.wrap .i64 (y4)))) + (7 : Int))) (1073741823 : Int), IntKind.wrap .i64 (x0.2 + (1 : Int)))
    else some x0.1) (IntKind.wrap .i64 ((13501 : Int) + (a0.length : Int)), (0 : Int)) : Option (Int)) fun x5 =>
  some ((a0, (0 : Int), x5), ()) := by kernel_rfl
/- spec.l01Byte -/
def c_sl01Byte : TC :=
 (.seq (.rg [o1 2 (.lit [.i .i64] [.int .i64 (0)])])
 (.seq (.rg [o1 4 (.p0),
   o1 5 (.p0),
   o1 6 (.same 5),
   o1 7 (.idx (.t 6)),
   o1 8 (.load 0 [] 2 (.t 7) 1 false),
   o1 9 (.data (.bin .mul) [.t 8, .c (.int .i64 (6364136223846793005))]),
   o1 10 (.data (.bin .add) [.t 9, .c (.int .i64 (1442695040888963407))]),
   o1 11 (.same 4),
   o1 12 (.idx (.t 11)),
   o4 1 [0] (.store 0 [] 2 (.t 12) (.t 10))])
 (.seq (.rg [o1 13 (.p0),
   o1 18 (.p0),
   o1 14 (.same 13),
   o1 15 (.idx (.t 14)),
   o1 16 (.load 0 [] 2 (.t 15) 1 false),
   o1 17 (.data (.bin .shr) [.t 16, .c (.int .u64 (33))]),
   o1 19 (.same 18),
   o1 20 (.idx (.t 19)),
   o1 21 (.load 0 [] 2 (.t 20) 1 false),
   o1 22 (.data (.bin .shr) [.t 21, .c (.int .u64 (45))]),
   o1 23 (.data (.bin .xor) [.t 17, .t 22]),
   o1 24 (.data (.bin .and) [.t 23, .c (.int .i64 (255))]),
   o1 3 (.copy 24)])
 (.seq (.join [⟨3, [.i .i64], false⟩, ⟨0, [.sl [.i .u8], .i .i64, .i .i64], false⟩] 144115188042301449 none (.seq (.rg [o1 25 (.p0),
   o1 29 (.p0),
   o1 26 (.same 25),
   o1 27 (.idx (.t 26)),
   o1 28 (.load 0 [] 1 (.t 27) 1 false),
   o1 30 (.same 29),
   o1 31 (.idx (.t 30)),
   o1 32 (.load 0 [] 0 (.t 31) 1 false),
   o1 33 (.len 32),
   o1 34 (.data (.bin .lss) [.t 28, .t 33])])
 (.cond (.t 34)
  (.seq (.rg [o1 35 (.copy 3),
    o1 36 (.p0),
    o1 40 (.p0),
    o1 37 (.same 36),
    o1 38 (.idx (.t 37)),
    o1 39 (.load 0 [] 0 (.t 38) 1 false),
    o1 41 (.same 40),
    o1 42 (.idx (.t 41)),
    o1 43 (.load 0 [] 1 (.t 42) 1 false),
    o1 44 (.index 39 (.t 43)),
    o1 45 (.load 39 [(0, 1)] 0 (.t 44) 1 false),
    o1 46 (.data (.conv .i64) [.t 45]),
    o1 47 (.data (.bin .add) [.t 35, .t 46]),
    o1 48 (.data (.bin .and) [.t 47, .c (.int .i64 (255))]),
    o1 3 (.copy 48)])
  (.rg [o1 49 (.p0),
    o1 50 (.p0),
    o1 51 (.same 50),
    o1 52 (.idx (.t 51)),
    o1 53 (.load 0 [] 1 (.t 52) 1 false),
    o1 54 (.data (.bin .add) [.t 53, .c (.int .i64 (1))]),
    o1 55 (.same 49),
    o1 56 (.idx (.t 55)),
    o4 1 [0] (.store 0 [] 1 (.t 56) (.t 54))]))
  .skip)))
 (.seq (.rg [o1 57 (.copy 3),
   o1 2 (.copy 57)])
 .ret)))))
def s_sl01Byte : Sig := ⟨[.mp [.sl (.ro []) [.d], .d, .d]], (.one false [.d])⟩
noncomputable def E_sl01Byte : TEnv := envOf []
noncomputable def f_sl01Byte (n : Nat) : (List (Int) × Int × Int) → Option ((Int) × List (Int) × Int × Int) := runFn n E_sl01Byte c_sl01Byte [[.sl [.i .u8], .i .i64, .i .i64]] [.i .i64] [.sl [.i .u8], .i .i64, .i .i64] [2] (.mp 0)
noncomputable def g_sl01Byte := f_sl01Byte BIG
noncomputable def p_sl01Byte : TSp := ⟨s_sl01Byte, [[.sl [.i .u8], .i .i64, .i .i64]], [.i .i64], [.sl [.i .u8], .i .i64, .i .i64], Ou.j (.mp 0), g_sl01Byte⟩
theorem k_sl01Byte : chkW PG E_sl01Byte 78 s_sl01Byte (c_sl01Byte.ht 58) (.mp 0) = some (c_sl01Byte.wc E_sl01Byte, [2]) := by kernel_rfl
theorem ok_sl01Byte : p_sl01Byte.Ok PG 78 := mkOk (env_nil PG) k_sl01Byte (by kernel_rfl)
theorem e_sl01Byte (n : Nat) (a0 : List (Int) × Int × Int) : f_sl01Byte n a0 =
  bif decide ((33 : Int) < 0) then
   none
  else bif decide ((45 : Int) < 0) then
   none
  else Option.bind (bif decide (a0.2.1 < (a0.1.length : Int)) then
    bnd a0.1.length a0.2.1 fun n0 =>
    Option.bind a0.1[n0]? fun y1 =>
    some (bits .and .i64 (IntKind.wrap .i64 ((bits .and .i64 (bits .xor .i64 (Int.fdiv (IntKind.wrap .i64 ((IntKind.wrap .i64 (a0.2.2 * (6364136223846793005 : Int))) + (1442695040888963407 : Int))) (2 ^ (Nat.min (Int.toNat (33 : Int)) (IntKind.bits .i64)))) (Int.fdiv (IntKind.wrap .i64 ((IntKind.wrap .i64 (a0.2.2 * (6364136223846793005 : Int))) + (1442695040888963407 : Int))) (2 ^ (Nat.min (Int.toNat (45 : Int)) (IntKind.bits .i64))))) (255 : Int)) + (IntKind.wrap .i64 (y1)))) (255 : Int), (a0.1, IntKind.wrap .i64 (a0.2.1 + (1 : Int)), IntKind.wrap .i64 ((IntKind.wrap .i64 (a0.2.2 * (6364136223846793005 : Int))) + (1442695040888963407 : Int))))
   else some (bits .and .i64 (bits .xor .i64 (Int.fdiv (IntKind.wrap .i64 ((IntKind.wrap .i64 (a0.2.2 * (6364136223846793005 : Int))) + (1442695040888963407 : Int))) (2 ^ (Nat.min (Int.toNat (33 : Int)) (IntKind.bits .i64)))) (Int.fdiv (IntKind.wrap .i64 ((IntKind.wrap .i64 (a0.2.2 * (6364136223846793005 : Int))) + (1442695040888963407 : Int))) (2 ^ (Nat.min (Int.toNat (45 : Int)) (IntKind.bits .i64))))) (255 : Int), (a0.1, a0.2.1, IntKind.wrap .i64 ((IntKind.wrap .i64 (a0.2.2 * (6364136223846793005 : Int))) + (1442695040888963407 : Int)))) : Option (Int × (List (Int) × Int × Int))) fun x2 =>
  some (x2.1, x2.2) := by kernel_rfl
/- spec.l01Below -/
def c_sl01Below : TC :=
 (.seq (.rg [o1 4 (.lit [.i .i64] [.int .i64 (0)])])
 (.seq (.seq (.rg [o1 9 (.copy 1),
   o1 10 (.data (.bin .leq) [.t 9, .c (.int .i64 (0))])])
 (.cond (.t 10)
  (.seq (.rg [o1 4 (.lit [.i .i64] [.int .i64 (0)])])
  .ret)
  .skip))
 (.seq (.seq (.rg [o1 11 (.copy 1),
   o1 12 (.data (.bin .leq) [.t 11, .c (.int .i64 (256))])])
 (.cond (.t 12)
  (.seq (.rg [o1 13 (.p0),
    ⟨false, [], [], .call 2 78 [.t 0] (.mp 0), [14, 0], (some 14), none⟩,
    o1 15 (.copy 1),
    o1 16 (.data (.bin .rem) [.t 14, .t 15]),
    o1 4 (.copy 16)])
  .ret)
  .skip))
 (.seq (.rg [o1 17 (.p0),
   ⟨false, [], [], .call 2 78 [.t 0] (.mp 0), [18, 0], (some 18), none⟩,
   o1 5 (.copy 18)])
 (.seq (.rg [o1 19 (.p0),
   ⟨false, [], [], .call 2 78 [.t 0] (.mp 0), [20, 0], (some 20), none⟩,
   o1 6 (.copy 20)])
 (.seq (.rg [o1 21 (.p0),
   ⟨false, [], [], .call 2 78 [.t 0] (.mp 0), [22, 0], (some 22), none⟩,
   o1 7 (.copy 22)])
 (.seq (.rg [o1 23 (.p0),
   ⟨false, [], [], .call 2 78 [.t 0] (.mp 0), [24, 0], (some 24), none⟩,
   o1 8 (.copy 24)])
 (.seq (.rg [o1 25 (.copy 5),
   o1 26 (.data (.bin .mul) [.t 25, .c (.int .i64 (16777216))]),
   o1 27 (.copy 6),
   o1 28 (.data (.bin .mul) [.t 27, .c (.int .i64 (65536))]),
   o1 29 (.data (.bin .add) [.t 26, .t 28]),
   o1 30 (.copy 7),
   o1 31 (.data (.bin .mul) [.t 30, .c (.int .i64 (256))]),
   o1 32 (.data (.bin .add) [.t 29, .t 31]),
   o1 33 (.copy 8),
   o1 34 (.data (.bin .add) [.t 32, .t 33]),
   o1 35 (.copy 1),
   o1 36 (.data (.bin .rem) [.t 34, .t 35]),
   o1 4 (.copy 36)])
 .ret))))))))
def s_sl01Below : Sig := ⟨[.mp [.sl (.ro []) [.d], .d, .d], .rd false [.d]], (.one false [.d])⟩
noncomputable def E_sl01Below : TEnv := envOf [(78, p_sl01Byte)]
noncomputable def f_sl01Below (n : Nat) : (List (Int) × Int × Int) × Int → Option ((Int) × List (Int) × Int × Int) := runFn n E_sl01Below c_sl01Below [[.sl [.i .u8], .i .i64, .i .i64], [.i .i64]] [.i .i64] [.sl [.i .u8], .i .i64, .i .i64] [4] (.mp 0)
noncomputable def g_sl01Below := f_sl01Below BIG
noncomputable def p_sl01Below : TSp := ⟨s_sl01Below, [[.sl [.i .u8], .i .i64, .i .i64], [.i .i64]], [.i .i64], [.sl [.i .u8], .i .i64, .i .i64], Ou.j (.mp 0), g_sl01Below⟩
theorem k_sl01Below : chkW PG E_sl01Below 55 s_sl01Below (c_sl01Below.ht 37) (.mp 0) = some (c_sl01Below.wc E_sl01Below, [4]) := by kernel_rfl
theorem ok_sl01Below : p_sl01Below.Ok PG 55 := mkOk (env_cons ok_sl01Byte (env_nil PG)) k_sl01Below (by kernel_rfl)
theorem e_sl01Below (n : Nat) (a0 : List (Int) × Int × Int) (a1 : Int) : f_sl01Below n (a0, a1) =
  bif decide (a1 ≤ (0 : Int)) then
   some ((0 : Int), a0)
  else bif decide (a1 ≤ (256 : Int)) then
   Option.bind (g_sl01Byte a0) fun r0 =>
   bif decide (a1 = 0) then
    none
   else some (Int.tmod r0.1 a1, r0.2)
  else Option.bind (g_sl01Byte a0) fun r1 =>
  Option.bind (g_sl01Byte r1.2) fun r2 =>
  Option.bind (g_sl01Byte r2.2) fun r3 =>
  Option.bind (g_sl01Byte r3.2) fun r4 =>
  bif decide (a1 = 0) then
   none
  else some (Int.tmod (IntKind.wrap .i64 ((IntKind.wrap .i64 ((IntKind.wrap .i64 ((IntKind.wrap .i64 (r1.1 * (16777216 : Int))) + (IntKind.wrap .i64 (r2.1 * (65536 : Int))))) + (IntKind.wrap .i64 (r3.1 * (256 : Int))))) + r4.1)) a1, r4.2) := by kernel_rfl
/- spec.l01In -/
def c_sl01In : TC :=
 (.seq (.rg [o1 6 (.lit [.b] [.bool false])])
 (.seq (.join [⟨6, [.b], false⟩] 32704 none (.rg [o1 7 (.copy 0),
   o1 8 (.copy 1),
   o1 9 (.data (.bin .geq) [.t 7, .t 8]),
   o1 10 (.copy 9),
   o2 11 (.copy 0) 3 true,
   o2 12 (.copy 2) 3 true,
   o2 13 (.data (.bin .leq) [.t 11, .t 12]) 3 true,
   ⟨false, [], [], .pick 10 (.t 13) (.c (.bool false)), [14], (some 14), none⟩,
   o1 6 (.copy 14)]))
 .ret))
def s_sl01In : Sig := ⟨[.rd false [.d], .rd false [.d], .rd false [.d]], (.one false [.d])⟩
noncomputable def E_sl01In : TEnv := envOf []
noncomputable def f_sl01In (n : Nat) : Int × Int × Int → Option ((Bool) × Unit) := runFn n E_sl01In c_sl01In [[.i .i64], [.i .i64], [.i .i64]] [.b] [] [6] .no
noncomputable def g_sl01In := f_sl01In BIG
noncomputable def p_sl01In : TSp := ⟨s_sl01In, [[.i .i64], [.i .i64], [.i .i64]], [.b], [], Ou.j .no, g_sl01In⟩
theorem k_sl01In : chkW PG E_sl01In 24 s_sl01In (c_sl01In.ht 15) .no = some (c_sl01In.wc E_sl01In, [6]) := by kernel_rfl
theorem ok_sl01In : p_sl01In.Ok PG 24 := mkOk (env_nil PG) k_sl01In (by kernel_rfl)
theorem e_sl01In (n : Nat) (a0 : Int) (a1 : Int) (a2 : Int) : f_sl01In n (a0, a1, a2) =
  Option.bind (bif decide (a1 ≤ a0) then
    some (decide (a0 ≤ a2))
   else some false : Option (Bool)) fun x0 =>
  some (x0, ()) := by kernel_rfl
/- spec.ForestNew -/
def c_sForestNew : TC :=
 (.seq (.rg [⟨false, [], [], .det 2 (.a (.c [.i .i64, .sl [.sl [.i .i64]]] [.int .i64 (0), .slice none 0 0])), [2, 1000000003], (some 2), none⟩,
   o1 3 (.lit [.b] [.bool false])])
 (.seq (.rg [o1 6 (.copy 0),
   o1 7 (.build [.i .i64, .sl [.sl [.i .i64]]] [(0, .t 6)]),
   ⟨false, [], [], .det 2 (.a (.c [.i .i64, .sl [.sl [.i .i64]]] [.int .i64 (0), .slice none 0 0])), [4, 1000000005], (some 4), none⟩,
   o4 2 [4, 7] (.store 4 [] 0 .nil (.t 7))])
 (.seq (.seq (.rg [o1 8 (.copy 0),
   o3 9 24 [.t 8, .c [.i .i64] [.int .i64 (1)], .c [.i .i64] [.int .i64 (12)]],
   o1 10 (.data .not [.t 9])])
 (.cond (.t 10)
  (.seq (.rg [o1 11 (.build [.i .i64, .sl [.sl [.i .i64]]] []),
    o4 2 [2, 11] (.store 2 [] 0 .nil (.t 11)),
    o1 3 (.lit [.b] [.bool false])])
  .ret)
  .skip))
 (.seq (.join [⟨4, [.i .i64, .sl [.sl [.i .i64]]], false⟩] 16773168 none (.seq (.rg [o1 5 (.lit [.i .i64] [.int .i64 (0)])])
 (.block 0 (.loop [⟨4, [.i .i64, .sl [.sl [.i .i64]]], false⟩, ⟨5, [.i .i64], false⟩] 16773168
  (.seq (.seq (.rg [o1 12 (.copy 5),
    o1 13 (.copy 0),
    o1 14 (.data (.bin .lss) [.t 12, .t 13])])
  (.cond (.t 14)
   .skip
   (.exit 0)))
  (.seq (.block 1 (.rg [o1 17 (.idx .nil),
    o1 18 (.load 4 [] 1 (.t 17) 1 true),
    o1 19 (.copy 5),
    o1 20 (.sli [.i .i64] [.t 19]),
    ⟨false, [], [], .det 2 (.sli [.sl [.i .i64]] [.t 20]), [21, 20], (some 21), none⟩,
    ⟨false, [18], [], .det 3 (.app (some 18) 21), [22, 18, 21, 18, 4], (some 22), none⟩,
    o1 23 (.idx .nil),
    o4 2 [4, 22, 18] (.store 4 [] 1 (.t 23) (.t 22))]))
  (.rg [o1 15 (.copy 5),
    o1 16 (.data (.bin .add) [.t 15, .c (.int .i64 (1))]),
    o1 5 (.copy 16)])))))))
 (.seq (.rg [o1 24 (.load 4 [] 0 .nil 2 true),
   ⟨false, [24], [], .det 2 (.store 2 [] 0 .nil (.t 24)), [2, 24, 24, 4], none, none⟩,
   o1 3 (.lit [.b] [.bool true])])
 .ret)))))
def s_sForestNew : Sig := ⟨[.rd false [.d]], (.tup [(true, 2), (false, 1)] [.d, .sl (.own none) [.sl (.own none) [.d]], .d])⟩
noncomputable def E_sForestNew : TEnv := envOf [(24, p_sl01In)]
noncomputable def f_sForestNew (n : Nat) : Int → Option ((Int × List (List (Int)) × Bool) × Unit) := runFn n E_sForestNew c_sForestNew [[.i .i64]] [.i .i64, .sl [.sl [.i .i64]], .b] [] [2, 3] .no
noncomputable def g_sForestNew := f_sForestNew BIG
noncomputable def p_sForestNew : TSp := ⟨s_sForestNew, [[.i .i64]], [.i .i64, .sl [.sl [.i .i64]], .b], [], Ou.j .no, g_sForestNew⟩
theorem k_sForestNew : chkW PG E_sForestNew 68 s_sForestNew (c_sForestNew.ht 25) .no = some (c_sForestNew.wc E_sForestNew, [2, 3]) := by kernel_rfl
theorem ok_sForestNew : p_sForestNew.Ok PG 68 := mkOk (env_cons ok_sl01In (env_nil PG)) k_sForestNew (by kernel_rfl)
theorem e_sForestNew (n : Nat) (a0 : Int) : f_sForestNew n a0 =
  Option.bind (g_sl01In (a0, (1 : Int), (12 : Int))) fun r0 =>
  bif !r0.1 then
   some (((0 : Int), [], false), ())
  else Option.bind (loopT n (X := (Int × List ((List (Int)))) × Int) (B := (Int × List ((List (Int))))) (fun self2 x1 =>
    bif decide (x1.2 < a0) then
     bif decide (x1.1.2.length + [[x1.2]].length ≤ 4294967296) then
      self2 ((x1.1.1, x1.1.2 ++ [[x1.2]]), IntKind.wrap .i64 (x1.2 + (1 : Int)))
     else none
    else some x1.1) ((a0, []), (0 : Int)) : Option ((Int × List ((List (Int)))))) fun x3 =>
  some ((x3.1, x3.2, true), ()) := by kernel_rfl
/- spec.l05In -/
def c_sl05In : TC :=
 (.seq (.rg [o1 4 (.lit [.b] [.bool false])])
 (.seq (.join [] 262128 (some [⟨4, [.b], false⟩]) (.seq (.rg [o1 5 (.lit [.i .i64] [.int .i64 (0)])])
 (.block 0 (.loop [⟨5, [.i .i64], false⟩] 262128
  (.seq (.seq (.rg [o1 6 (.copy 5),
    o1 7 (.copy 0),
    o1 8 (.len 7),
    o1 9 (.data (.bin .lss) [.t 6, .t 8])])
  (.cond (.t 9)
   .skip
   (.exit 0)))
  (.seq (.block 1 (.seq (.rg [o1 12 (.copy 0),
    o1 13 (.copy 5),
    o1 14 (.index 12 (.t 13)),
    o1 15 (.load 12 [(0, 1)] 0 (.t 14) 1 false),
    o1 16 (.copy 1),
    o1 17 (.data (.bin .eql) [.t 15, .t 16])])
  (.cond (.t 17)
   (.seq (.rg [o1 4 (.lit [.b] [.bool true])])
   .ret)
   .skip)))
  (.rg [o1 10 (.copy 5),
    o1 11 (.data (.bin .add) [.t 10, .c (.int .i64 (1))]),
    o1 5 (.copy 11)])))))))
 (.seq (.rg [o1 4 (.lit [.b] [.bool false])])
 .ret)))
def s_sl05In : Sig := ⟨[.rd false [.sl (.own none) [.d]], .rd false [.d]], (.one false [.d])⟩
noncomputable def E_sl05In : TEnv := envOf []
noncomputable def f_sl05In (n : Nat) : List (Int) × Int → Option ((Bool) × Unit) := runFn n E_sl05In c_sl05In [[.sl [.i .i64]], [.i .i64]] [.b] [] [4] .no
noncomputable def g_sl05In := f_sl05In BIG
noncomputable def p_sl05In : TSp := ⟨s_sl05In, [[.sl [.i .i64]], [.i .i64]], [.b], [], Ou.j .no, g_sl05In⟩
theorem k_sl05In : chkW PG E_sl05In 53 s_sl05In (c_sl05In.ht 18) .no = some (c_sl05In.wc E_sl05In, [4]) := by kernel_rfl
theorem ok_sl05In : p_sl05In.Ok PG 53 := mkOk (env_nil PG) k_sl05In (by kernel_rfl)
theorem e_sl05In (n : Nat) (a0 : List (Int)) (a1 : Int) : f_sl05In n (a0, a1) =
  Option.bind (loopT n (X := Int) (B := (Unit) ⊕ (Bool)) (fun self1 x0 =>
    bif decide (x0 < (a0.length : Int)) then
     bnd a0.length x0 fun n2 =>
     Option.bind a0[n2]? fun y3 =>
     bif decide (y3 = a1) then
      some (Sum.inr true)
     else self1 (IntKind.wrap .i64 (x0 + (1 : Int)))
    else some (Sum.inl ())) (0 : Int) : Option ((Unit) ⊕ (Bool))) fun y => match y with
  | .inl x4 =>
   some (false, ())
  | .inr x4 =>
   some (x4, ()) := by kernel_rfl
/- spec.l06Open -/
def c_sl06Open : TC :=
 (.seq (.rg [o1 2 (.lit [.b] [.bool false])])
 (.seq (.rg [o1 6 (.copy 0),
   o1 7 (.index 6 (.c (.int .i64 (0)))),
   o1 8 (.load 6 [(0, 1)] 0 (.t 7) 1 false),
   o1 9 (.sli [.i .i64] [.t 8]),
   ⟨false, [], [], .det 2 (.copy 9), [3, 9], (some 3), none⟩])
 (.seq (.rg [o1 10 (.copy 0),
   o1 11 (.index 10 (.c (.int .i64 (0)))),
   o1 12 (.load 10 [(0, 1)] 0 (.t 11) 1 false),
   o1 13 (.sli [.i .i64] [.t 12]),
   ⟨false, [], [], .det 2 (.copy 13), [4, 13], (some 4), none⟩])
 (.seq (.join [⟨3, [.sl [.i .i64]], false⟩] 2305843009213677628 (some [⟨2, [.b], false⟩]) (.seq (.rg [o1 5 (.lit [.i .i64] [.int .i64 (1)])])
 (.block 0 (.loop [⟨3, [.sl [.i .i64]], false⟩, ⟨4, [.sl [.i .i64]], false⟩, ⟨5, [.i .i64], false⟩] 2305843009213677628
  (.seq (.seq (.rg [o1 14 (.copy 5),
    o1 15 (.copy 0),
    o1 16 (.len 15),
    o1 17 (.data (.bin .lss) [.t 14, .t 16])])
  (.cond (.t 17)
   .skip
   (.exit 0)))
  (.seq (.join [⟨3, [.sl [.i .i64]], false⟩, ⟨4, [.sl [.i .i64]], false⟩] 2305843009212645404 (some [⟨2, [.b], false⟩]) (.block 1 (.seq (.seq (.join [⟨35, [.b], false⟩] 68718428160 none (.rg [⟨true, [], [], .det 1 (.copy 3), [20], (some 20), none⟩,
    o1 21 (.len 20),
    o1 22 (.data (.bin .gtr) [.t 21, .c (.int .i64 (1))]),
    o1 23 (.copy 22),
    o2 24 (.copy 0) 3 true,
    o2 25 (.copy 5) 3 true,
    o2 26 (.index 24 (.t 25)) 3 true,
    o2 27 (.load 24 [(0, 1)] 0 (.t 26) 1 false) 3 true,
    ⟨true, [], [], .det 1 (.copy 3), [28], (some 28), some (3, true)⟩,
    ⟨true, [], [], .det 1 (.copy 3), [29], (some 29), some (3, true)⟩,
    o2 30 (.len 29) 3 true,
    o2 31 (.data (.bin .sub) [.t 30, .c (.int .i64 (2))]) 3 true,
    o2 32 (.index 28 (.t 31)) 3 true,
    o2 33 (.load 3 [(0, 1)] 0 (.t 32) 1 false) 3 true,
    o2 34 (.data (.bin .eql) [.t 27, .t 33]) 3 true,
    ⟨false, [], [], .pick 23 (.t 34) (.c (.bool false)), [35], (some 35), none⟩]))
  (.cond (.t 35)
   (.seq (.rg [⟨true, [], [], .det 1 (.copy 3), [36], (some 36), none⟩,
     ⟨true, [], [], .det 1 (.copy 3), [37], (some 37), none⟩,
     o1 38 (.len 37),
     o1 39 (.data (.bin .sub) [.t 38, .c (.int .i64 (1))]),
     ⟨true, [36], [], .det 2 (.res 36 none (some (.t 39))), [40, 36, 36, 3, 20, 37], (some 40), none⟩,
     ⟨false, [], [], .det 2 (.copy 40), [3, 40, 20, 37, 36], (some 3), none⟩])
   (.exit 1))
   .skip))
  (.seq (.seq (.rg [⟨true, [], [], .det 1 (.copy 4), [41], (some 41), none⟩,
    o1 42 (.copy 0),
    o1 43 (.copy 5),
    o1 44 (.index 42 (.t 43)),
    o1 45 (.load 42 [(0, 1)] 0 (.t 44) 1 false),
    o3 46 53 [.t 41, .t 45]])
  (.cond (.t 46)
   (.seq (.rg [o1 2 (.lit [.b] [.bool false])])
   .ret)
   .skip))
  (.seq (.rg [⟨false, [], [], .det 2 (.copy 4), [47, 4, 41], (some 47), none⟩,
    o1 48 (.copy 0),
    o1 49 (.copy 5),
    o1 50 (.index 48 (.t 49)),
    o1 51 (.load 48 [(0, 1)] 0 (.t 50) 1 false),
    o1 52 (.sli [.i .i64] [.t 51]),
    ⟨false, [], [], .det 2 (.app (some 47) 52), [53, 47], (some 53), none⟩,
    ⟨false, [], [], .det 2 (.copy 53), [4, 53, 41], (some 4), none⟩])
  (.rg [⟨false, [], [], .det 2 (.copy 3), [54, 3, 20], (some 54), none⟩,
    o1 55 (.copy 0),
    o1 56 (.copy 5),
    o1 57 (.index 55 (.t 56)),
    o1 58 (.load 55 [(0, 1)] 0 (.t 57) 1 false),
    o1 59 (.sli [.i .i64] [.t 58]),
    ⟨false, [], [], .det 2 (.app (some 54) 59), [60, 54], (some 60), none⟩,
    ⟨false, [], [], .det 2 (.copy 60), [3, 60, 20], (some 3), none⟩]))))))
  (.rg [o1 18 (.copy 5),
    o1 19 (.data (.bin .add) [.t 18, .c (.int .i64 (1))]),
    o1 5 (.copy 19)])))))))
 (.seq (.rg [⟨false, [], [], .det 2 (.copy 3), [61, 3], (some 61), none⟩,
   o1 62 (.len 61),
   o1 63 (.data (.bin .eql) [.t 62, .c (.int .i64 (1))]),
   o1 2 (.copy 63)])
 .ret)))))
def s_sl06Open : Sig := ⟨[.rd false [.sl (.own none) [.d]]], (.one false [.d])⟩
noncomputable def E_sl06Open : TEnv := envOf [(53, p_sl05In)]
noncomputable def f_sl06Open (n : Nat) : List (Int) → Option ((Bool) × Unit) := runFn n E_sl06Open c_sl06Open [[.sl [.i .i64]]] [.b] [] [2] .no
noncomputable def g_sl06Open := f_sl06Open BIG
noncomputable def p_sl06Open : TSp := ⟨s_sl06Open, [[.sl [.i .i64]]], [.b], [], Ou.j .no, g_sl06Open⟩
theorem k_sl06Open : chkW PG E_sl06Open 77 s_sl06Open (c_sl06Open.ht 64) .no = some (c_sl06Open.wc E_sl06Open, [2]) := by kernel_rfl
theorem ok_sl06Open : p_sl06Open.Ok PG 77 := mkOk (env_cons ok_sl05In (env_nil PG)) k_sl06Open (by kernel_rfl)
theorem e_sl06Open (n : Nat) (a0 : List (Int)) : f_sl06Open n a0 =
  bnd a0.length (0 : Int) fun n0 =>
  Option.bind a0[n0]? fun y1 =>
  bnd a0.length (0 : Int) fun n2 =>
  Option.bind a0[n2]? fun y3 =>
  Option.bind (loopT n (X := (List (Int)) × (List (Int)) × Int) (B := ((List (Int))) ⊕ (Bool)) (fun self5 x4 =>
    bif decide (x4.2.2 < (a0.length : Int)) then
     Option.bind (Option.bind (bif decide ((1 : Int) < (x4.1.length : Int)) then
        bnd a0.length x4.2.2 fun n6 =>
        Option.bind a0[n6]? fun y7 =>
        bnd x4.1.length (IntKind.wrap .i64 ((x4.1.length : Int) - (2 : Int))) fun n8 =>
        Option.bind x4.1[n8]? fun y9 =>
        some (decide (y7 = y9))
       else some false : Option (Bool)) fun x10 =>
      bif x10 then
       bif decide (0 ≤ (IntKind.wrap .i64 ((x4.1.length : Int) - (1 : Int)))) then
        bif decide (0 ≤ (Int.toNat (IntKind.wrap .i64 ((x4.1.length : Int) - (1 : Int)))) ∧ (Int.toNat (IntKind.wrap .i64 ((x4.1.length : Int) - (1 : Int)))) ≤ x4.1.length) then
         some (Sum.inl (List.take ((Int.toNat (IntKind.wrap .i64 ((x4.1.length : Int) - (1 : Int)))) - 0) (List.drop 0 x4.1), x4.2.1))
        else none
       else none
      else bnd a0.length x4.2.2 fun n11 =>
      Option.bind a0[n11]? fun y12 =>
      Option.bind (g_sl05In (x4.2.1, y12)) fun r13 =>
      bif r13.1 then
       some (Sum.inr false)
      else bnd a0.length x4.2.2 fun n14 =>
      Option.bind a0[n14]? fun y15 =>
      bif decide (x4.2.1.length + [y15].length ≤ 4294967296) then
       bnd a0.length x4.2.2 fun n16 =>
       Option.bind a0[n16]? fun y17 =>
       bif decide (x4.1.length + [y17].length ≤ 4294967296) then
        some (Sum.inl (x4.1 ++ [y17], x4.2.1 ++ [y15]))
       else none
      else none : Option (((List (Int)) × (List (Int))) ⊕ (Bool))) fun y => match y with
     | .inl x18 =>
      self5 (x18.1, x18.2, IntKind.wrap .i64 (x4.2.2 + (1 : Int)))
     | .inr x18 =>
      some (Sum.inr x18)
    else some (Sum.inl x4.1)) ([y1], [y3], (1 : Int)) : Option (((List (Int))) ⊕ (Bool))) fun y => match y with
  | .inl x19 =>
   some (decide ((x19.length : Int) = (1 : Int)), ())
  | .inr x19 =>
   some (x19, ()) := by kernel_rfl
/- spec.TourOk -/
def c_sTourOk : TC :=
 (.seq (.rg [o1 2 (.lit [.b] [.bool false])])
 (.seq (.seq (.rg [o1 4 (.copy 0),
   o1 5 (.len 4),
   o3 6 24 [.t 5, .c [.i .i64] [.int .i64 (1)], .c [.i .i64] [.int .i64 (23)]],
   o1 7 (.data .not [.t 6])])
 (.cond (.t 7)
  (.seq (.rg [o1 2 (.lit [.b] [.bool false])])
  .ret)
  .skip))
 (.seq (.join [] 1048332 (some [⟨2, [.b], false⟩]) (.seq (.rg [o1 3 (.lit [.i .i64] [.int .i64 (0)])])
 (.block 0 (.loop [⟨3, [.i .i64], false⟩] 1048332
  (.seq (.seq (.rg [o1 8 (.copy 3),
    o1 9 (.copy 0),
    o1 10 (.len 9),
    o1 11 (.data (.bin .lss) [.t 8, .t 10])])
  (.cond (.t 11)
   .skip
   (.exit 0)))
  (.seq (.block 1 (.seq (.rg [o1 14 (.copy 0),
    o1 15 (.copy 3),
    o1 16 (.index 14 (.t 15)),
    o1 17 (.load 14 [(0, 1)] 0 (.t 16) 1 false),
    o3 18 24 [.t 17, .c [.i .i64] [.int .i64 (0)], .c [.i .i64] [.int .i64 (11)]],
    o1 19 (.data .not [.t 18])])
  (.cond (.t 19)
   (.seq (.rg [o1 2 (.lit [.b] [.bool false])])
   .ret)
   .skip)))
  (.rg [o1 12 (.copy 3),
    o1 13 (.data (.bin .add) [.t 12, .c (.int .i64 (1))]),
    o1 3 (.copy 13)])))))))
 (.seq (.rg [o1 20 (.copy 0),
   o3 21 77 [.t 20],
   o1 2 (.copy 21)])
 .ret))))
def s_sTourOk : Sig := ⟨[.rd false [.sl (.own none) [.d]]], (.one false [.d])⟩
noncomputable def E_sTourOk : TEnv := envOf [(24, p_sl01In), (77, p_sl06Open)]
noncomputable def f_sTourOk (n : Nat) : List (Int) → Option ((Bool) × Unit) := runFn n E_sTourOk c_sTourOk [[.sl [.i .i64]]] [.b] [] [2] .no
noncomputable def g_sTourOk := f_sTourOk BIG
noncomputable def p_sTourOk : TSp := ⟨s_sTourOk, [[.sl [.i .i64]]], [.b], [], Ou.j .no, g_sTourOk⟩
theorem k_sTourOk : chkW PG E_sTourOk 52 s_sTourOk (c_sTourOk.ht 22) .no = some (c_sTourOk.wc E_sTourOk, [2]) := by kernel_rfl
theorem ok_sTourOk : p_sTourOk.Ok PG 52 := mkOk (env_cons ok_sl01In (env_cons ok_sl06Open (env_nil PG))) k_sTourOk (by kernel_rfl)
theorem e_sTourOk (n : Nat) (a0 : List (Int)) : f_sTourOk n a0 =
  Option.bind (g_sl01In ((a0.length : Int), (1 : Int), (23 : Int))) fun r0 =>
  bif !r0.1 then
   some (false, ())
  else Option.bind (loopT n (X := Int) (B := (Unit) ⊕ (Bool)) (fun self2 x1 =>
    bif decide (x1 < (a0.length : Int)) then
     bnd a0.length x1 fun n3 =>
     Option.bind a0[n3]? fun y4 =>
     Option.bind (g_sl01In (y4, (0 : Int), (11 : Int))) fun r5 =>
     bif !r5.1 then
      some (Sum.inr false)
     else self2 (IntKind.wrap .i64 (x1 + (1 : Int)))
    else some (Sum.inl ())) (0 : Int) : Option ((Unit) ⊕ (Bool))) fun y => match y with
  | .inl x6 =>
   Option.bind (g_sl06Open a0) fun r7 =>
   some (r7.1, ())
  | .inr x6 =>
   some (x6, ()) := by kernel_rfl
/- spec.VertsOf -/
def c_sVertsOf : TC :=
 (.seq (.rg [o1 2 (.lit [.sl [.i .i64]] [.slice none 0 0])])
 (.seq (.rg [o1 5 (.sli [.i .i64] []),
   ⟨false, [], [], .det 2 (.copy 5), [3, 5], (some 3), none⟩])
 (.seq (.join [⟨3, [.sl [.i .i64]], false⟩] 131032 none (.seq (.rg [o1 4 (.lit [.i .i64] [.int .i64 (0)])])
 (.block 0 (.loop [⟨3, [.sl [.i .i64]], false⟩, ⟨4, [.i .i64], false⟩] 131032
  (.seq (.seq (.rg [o1 6 (.copy 4),
    o1 7 (.data (.bin .lss) [.t 6, .c (.int .i64 (12))])])
  (.cond (.t 7)
   .skip
   (.exit 0)))
  (.seq (.join [⟨3, [.sl [.i .i64]], false⟩] 130056 none (.block 1 (.seq (.rg [o1 10 (.copy 0),
    o1 11 (.copy 4),
    o3 12 53 [.t 10, .t 11]])
  (.cond (.t 12)
   (.rg [⟨false, [], [], .det 2 (.copy 3), [13, 3], (some 13), none⟩,
     o1 14 (.copy 4),
     o1 15 (.sli [.i .i64] [.t 14]),
     ⟨false, [], [], .det 2 (.app (some 13) 15), [16, 13], (some 16), none⟩,
     ⟨false, [], [], .det 2 (.copy 16), [3, 16], (some 3), none⟩])
   .skip))))
  (.rg [o1 8 (.copy 4),
    o1 9 (.data (.bin .add) [.t 8, .c (.int .i64 (1))]),
    o1 4 (.copy 9)])))))))
 (.seq (.rg [⟨false, [], [], .det 2 (.copy 3), [17, 3], (some 17), none⟩,
   ⟨false, [], [], .det 2 (.copy 17), [2, 17], (some 2), none⟩])
 .ret))))
def s_sVertsOf : Sig := ⟨[.rd false [.sl (.own none) [.d]]], (.one false [.sl (.own none) [.d]])⟩
noncomputable def E_sVertsOf : TEnv := envOf [(53, p_sl05In)]
noncomputable def f_sVertsOf (n : Nat) : List (Int) → Option ((List (Int)) × Unit) := runFn n E_sVertsOf c_sVertsOf [[.sl [.i .i64]]] [.sl [.i .i64]] [] [2] .no
noncomputable def g_sVertsOf := f_sVertsOf BIG
noncomputable def p_sVertsOf : TSp := ⟨s_sVertsOf, [[.sl [.i .i64]]], [.sl [.i .i64]], [], Ou.j .no, g_sVertsOf⟩
theorem k_sVertsOf : chkW PG E_sVertsOf 51 s_sVertsOf (c_sVertsOf.ht 18) .no = some (c_sVertsOf.wc E_sVertsOf, [2]) := by kernel_rfl
theorem ok_sVertsOf : p_sVertsOf.Ok PG 51 := mkOk (env_cons ok_sl05In (env_nil PG)) k_sVertsOf (by kernel_rfl)
theorem e_sVertsOf (n : Nat) (a0 : List (Int)) : f_sVertsOf n a0 =
  Option.bind (loopT n (X := (List (Int)) × Int) (B := (List (Int))) (fun self1 x0 =>
    bif decide (x0.2 < (12 : Int)) then
     Option.bind (Option.bind (g_sl05In (a0, x0.2)) fun r2 =>
      bif r2.1 then
       bif decide (x0.1.length + [x0.2].length ≤ 4294967296) then
        some (x0.1 ++ [x0.2])
       else none
      else some x0.1 : Option ((List (Int)))) fun x3 =>
     self1 (x3, IntKind.wrap .i64 (x0.2 + (1 : Int)))
    else some x0.1) ([], (0 : Int)) : Option ((List (Int)))) fun x4 =>
  some (x4, ()) := by kernel_rfl
/- spec.ForestOk -/
def c_sForestOk : TC :=
 (.seq (.rg [o1 1 (.a (.t 0)),
   o1 2 (.lit [.b] [.bool false])])
 (.seq (.seq (.join [⟨17, [.b], false⟩] 261888 none (.rg [o1 8 (.idx .nil),
   o1 9 (.load 1 [] 0 (.t 8) 1 false),
   o3 10 24 [.t 9, .c [.i .i64] [.int .i64 (1)], .c [.i .i64] [.int .i64 (12)]],
   o1 11 (.data .not [.t 10]),
   o1 12 (.copy 11),
   o2 13 (.idx .nil) 4 false,
   o2 14 (.load 1 [] 1 (.t 13) 1 false) 4 false,
   o2 15 (.len 14) 4 false,
   o2 16 (.data (.bin .gtr) [.t 15, .c (.int .i64 (12))]) 4 false,
   ⟨false, [], [], .pick 12 (.c (.bool true)) (.t 16), [17], (some 17), none⟩]))
 (.cond (.t 17)
  (.seq (.rg [o1 2 (.lit [.b] [.bool false])])
  .ret)
  .skip))
 (.seq (.rg [o1 3 (.lit [.i .i64] [.int .i64 (0)])])
 (.seq (.join [⟨3, [.i .i64], false⟩] 2475880078570760549797986556 (some [⟨2, [.b], false⟩]) (.seq (.rg [o1 4 (.lit [.i .i64] [.int .i64 (0)])])
 (.block 0 (.loop [⟨3, [.i .i64], false⟩, ⟨4, [.i .i64], false⟩] 2475880078570760549797986556
  (.seq (.seq (.rg [o1 18 (.copy 4),
    o1 19 (.idx .nil),
    o1 20 (.load 1 [] 1 (.t 19) 1 false),
    o1 21 (.len 20),
    o1 22 (.data (.bin .lss) [.t 18, .t 21])])
  (.cond (.t 22)
   .skip
   (.exit 0)))
  (.seq (.join [⟨3, [.i .i64], false⟩] 2475880078570760549764694252 (some [⟨2, [.b], false⟩]) (.block 1 (.seq (.seq (.rg [o1 25 (.idx .nil),
    o1 26 (.load 1 [] 1 (.t 25) 1 false),
    o1 27 (.copy 4),
    o1 28 (.index 26 (.t 27)),
    o1 29 (.load 26 [(0, 1)] 0 (.t 28) 1 false),
    o3 30 52 [.t 29],
    o1 31 (.data .not [.t 30])])
  (.cond (.t 31)
   (.seq (.rg [o1 2 (.lit [.b] [.bool false])])
   .ret)
   .skip))
  (.seq (.rg [o1 32 (.idx .nil),
    o1 33 (.load 1 [] 1 (.t 32) 1 false),
    o1 34 (.copy 4),
    o1 35 (.index 33 (.t 34)),
    o1 36 (.load 33 [(0, 1)] 0 (.t 35) 1 false),
    o3 37 51 [.t 36],
    ⟨false, [], [], .det 2 (.copy 37), [5, 37], (some 5), none⟩])
  (.seq (.rg [o1 38 (.copy 3),
    ⟨true, [], [], .det 1 (.copy 5), [39], (some 39), none⟩,
    o1 40 (.len 39),
    o1 41 (.data (.bin .add) [.t 38, .t 40]),
    o1 3 (.copy 41)])
  (.seq (.seq (.join [⟨69, [.b], false⟩] 1180591616319364792320 none (.rg [⟨true, [], [], .det 1 (.copy 5), [42], (some 42), none⟩,
    ⟨true, [], [], .det 1 (.copy 5), [43], (some 43), none⟩,
    o1 44 (.len 43),
    o1 45 (.data (.bin .sub) [.t 44, .c (.int .i64 (1))]),
    o1 46 (.index 42 (.t 45)),
    o1 47 (.load 5 [(0, 1)] 0 (.t 46) 1 false),
    o1 48 (.idx .nil),
    o1 49 (.load 1 [] 0 (.t 48) 1 false),
    o1 50 (.data (.bin .geq) [.t 47, .t 49]),
    o1 51 (.copy 50),
    o2 52 (.copy 4) 9 false,
    o2 53 (.data (.bin .gtr) [.t 52, .c (.int .i64 (0))]) 9 false,
    o2 54 (.copy 53) 9 false,
    o2 55 (.idx .nil) 12 true,
    o2 56 (.load 1 [] 1 (.t 55) 1 false) 12 true,
    o2 57 (.copy 4) 12 true,
    o2 58 (.data (.bin .sub) [.t 57, .c (.int .i64 (1))]) 12 true,
    o2 59 (.index 56 (.t 58)) 12 true,
    o2 60 (.load 56 [(0, 1)] 0 (.t 59) 1 false) 12 true,
    ⟨false, [], [], .call 1 51 [.t 60] .no, [61], (some 61), some (12, true)⟩,
    o2 62 (.index 61 (.c (.int .i64 (0)))) 12 true,
    o2 63 (.load 61 [(0, 1)] 0 (.t 62) 1 false) 12 true,
    ⟨true, [], [], .det 1 (.copy 5), [64], (some 64), some (12, true)⟩,
    o2 65 (.index 64 (.c (.int .i64 (0)))) 12 true,
    o2 66 (.load 5 [(0, 1)] 0 (.t 65) 1 false) 12 true,
    o2 67 (.data (.bin .geq) [.t 63, .t 66]) 12 true,
    ⟨false, [], [], .pick 54 (.t 67) (.c (.bool false)), [68], (some 68), some (9, false)⟩,
    ⟨false, [], [], .pick 51 (.c (.bool true)) (.t 68), [69], (some 69), none⟩]))
  (.cond (.t 69)
   (.seq (.rg [o1 2 (.lit [.b] [.bool false])])
   .ret)
   .skip))
  (.seq (.rg [o1 6 (.lit [.i .i64] [.int .i64 (0)])])
  (.block 2 (.loop [⟨6, [.i .i64], false⟩] 2475878897979139832386945220
   (.seq (.seq (.rg [o1 70 (.copy 6),
     o1 71 (.copy 4),
     o1 72 (.data (.bin .lss) [.t 70, .t 71])])
   (.cond (.t 72)
    .skip
    (.exit 2)))
   (.seq (.join [] 2475842299638897592636539012 (some [⟨2, [.b], false⟩]) (.block 3 (.seq (.rg [o1 7 (.lit [.i .i64] [.int .i64 (0)])])
   (.block 4 (.loop [⟨7, [.i .i64], false⟩] 2475842299638897592636539012
    (.seq (.seq (.rg [o1 75 (.copy 7),
      ⟨true, [], [], .det 1 (.copy 5), [76], (some 76), none⟩,
      o1 77 (.len 76),
      o1 78 (.data (.bin .lss) [.t 75, .t 77])])
    (.cond (.t 78)
     .skip
     (.exit 4)))
    (.seq (.block 5 (.seq (.rg [o1 83 (.copy 6),
      ⟨true, [], [], .det 1 (.copy 5), [86], (some 86), none⟩,
      o1 87 (.copy 7),
      o1 81 (.idx .nil),
      o1 82 (.load 1 [] 1 (.t 81) 1 false),
      o1 84 (.index 82 (.t 83)),
      o1 85 (.load 82 [(0, 1)] 0 (.t 84) 1 false),
      o1 88 (.index 86 (.t 87)),
      o1 89 (.load 5 [(0, 1)] 0 (.t 88) 1 false),
      o3 90 53 [.t 85, .t 89]])
    (.cond (.t 90)
     (.seq (.rg [o1 2 (.lit [.b] [.bool false])])
     .ret)
     .skip)))
    (.rg [o1 79 (.copy 7),
      o1 80 (.data (.bin .add) [.t 79, .c (.int .i64 (1))]),
      o1 7 (.copy 80)]))))))))
   (.rg [o1 73 (.copy 6),
     o1 74 (.data (.bin .add) [.t 73, .c (.int .i64 (1))]),
     o1 6 (.copy 74)]))))))))))))
  (.rg [o1 23 (.copy 4),
    o1 24 (.data (.bin .add) [.t 23, .c (.int .i64 (1))]),
    o1 4 (.copy 24)])))))))
 (.seq (.rg [o1 91 (.copy 3),
   o1 92 (.idx .nil),
   o1 93 (.load 1 [] 0 (.t 92) 1 false),
   o1 94 (.data (.bin .eql) [.t 91, .t 93]),
   o1 2 (.copy 94)])
 .ret)))))
def s_sForestOk : Sig := ⟨[.rd true [.d, .sl (.own none) [.sl (.own none) [.d]]]], (.one false [.d])⟩
noncomputable def E_sForestOk : TEnv := envOf [(24, p_sl01In), (52, p_sTourOk), (51, p_sVertsOf), (53, p_sl05In)]
noncomputable def f_sForestOk (n : Nat) : (Int × List (List (Int))) → Option ((Bool) × Unit) := runFn n E_sForestOk c_sForestOk [[.i .i64, .sl [.sl [.i .i64]]]] [.b] [] [2] .no
noncomputable def g_sForestOk := f_sForestOk BIG
noncomputable def p_sForestOk : TSp := ⟨s_sForestOk, [[.i .i64, .sl [.sl [.i .i64]]]], [.b], [], Ou.j .no, g_sForestOk⟩
theorem k_sForestOk : chkW PG E_sForestOk 21 s_sForestOk (c_sForestOk.ht 95) .no = some (c_sForestOk.wc E_sForestOk, [2]) := by kernel_rfl
theorem ok_sForestOk : p_sForestOk.Ok PG 21 := mkOk (env_cons ok_sl01In (env_cons ok_sTourOk (env_cons ok_sVertsOf (env_cons ok_sl05In (env_nil PG))))) k_sForestOk (by kernel_rfl)
theorem e_sForestOk (n : Nat) (a0 : Int × List ((List (Int)))) : f_sForestOk n a0 =
  Option.bind (Option.bind (g_sl01In (a0.1, (1 : Int), (12 : Int))) fun r0 =>
   bif !r0.1 then
    some true
   else some (decide ((12 : Int) < (a0.2.length : Int))) : Option (Bool)) fun x1 =>
  bif x1 then
   some (false, ())
  else Option.bind (loopT n (X := Int × Int) (B := (Int) ⊕ (Bool)) (fun self3 x2 =>
    bif decide (x2.2 < (a0.2.length : Int)) then
     Option.bind (bnd a0.2.length x2.2 fun n4 =>
      Option.bind a0.2[n4]? fun y5 =>
      Option.bind (g_sTourOk y5) fun r6 =>
      bif !r6.1 then
       some (Sum.inr false)
      else bnd a0.2.length x2.2 fun n7 =>
      Option.bind a0.2[n7]? fun y8 =>
      Option.bind (g_sVertsOf y8) fun r9 =>
      Option.bind (bnd r9.1.length (IntKind.wrap .i64 ((r9.1.length : Int) - (1 : Int))) fun n10 =>
       Option.bind r9.1[n10]? fun y11 =>
       bif decide (a0.1 ≤ y11) then
        some true
       else bif decide ((0 : Int) < x2.2) then
        bnd a0.2.length (IntKind.wrap .i64 (x2.2 - (1 : Int))) fun n12 =>
        Option.bind a0.2[n12]? fun y13 =>
        Option.bind (g_sVertsOf y13) fun r14 =>
        bnd r14.1.length (0 : Int) fun n15 =>
        Option.bind r14.1[n15]? fun y16 =>
        bnd r9.1.length (0 : Int) fun n17 =>
        Option.bind r9.1[n17]? fun y18 =>
        some (decide (y18 ≤ y16))
       else some false : Option (Bool)) fun x19 =>
      bif x19 then
       some (Sum.inr false)
      else loopT n (X := Int) (B := (Int) ⊕ (Bool)) (fun self21 x20 =>
       bif decide (x20 < x2.2) then
        Option.bind (loopT n (X := Int) (B := (Unit) ⊕ (Bool)) (fun self23 x22 =>
          bif decide (x22 < (r9.1.length : Int)) then
           bnd a0.2.length x20 fun n24 =>
           Option.bind a0.2[n24]? fun y25 =>
           bnd r9.1.length x22 fun n26 =>
           Option.bind r9.1[n26]? fun y27 =>
           Option.bind (g_sl05In (y25, y27)) fun r28 =>
           bif r28.1 then
            some (Sum.inr false)
           else self23 (IntKind.wrap .i64 (x22 + (1 : Int)))
          else some (Sum.inl ())) (0 : Int) : Option ((Unit) ⊕ (Bool))) fun y => match y with
        | .inl x29 =>
         self21 (IntKind.wrap .i64 (x20 + (1 : Int)))
        | .inr x29 =>
         some (Sum.inr x29)
       else some (Sum.inl (IntKind.wrap .i64 (x2.1 + (r9.1.length : Int))))) (0 : Int) : Option ((Int) ⊕ (Bool))) fun y => match y with
     | .inl x30 =>
      self3 (x30, IntKind.wrap .i64 (x2.2 + (1 : Int)))
     | .inr x30 =>
      some (Sum.inr x30)
    else some (Sum.inl x2.1)) ((0 : Int), (0 : Int)) : Option ((Int) ⊕ (Bool))) fun y => match y with
  | .inl x31 =>
   some (decide (x31 = a0.1), ())
  | .inr x31 =>
   some (x31, ()) := by kernel_rfl
/- spec.l05Less -/
def c_sl05Less : TC :=
 (.seq (.rg [o1 2 (.a (.t 0)),
   o1 3 (.a (.t 1)),
   o1 4 (.lit [.b] [.bool false])])
 (.seq (.join [⟨4, [.b], false⟩] 16777200 none (.rg [o1 5 (.idx .nil),
   o1 6 (.load 2 [] 0 (.t 5) 1 false),
   o1 7 (.idx .nil),
   o1 8 (.load 3 [] 0 (.t 7) 1 false),
   o1 9 (.data (.bin .lss) [.t 6, .t 8]),
   o1 10 (.copy 9),
   o2 11 (.idx .nil) 5 false,
   o2 12 (.load 2 [] 0 (.t 11) 1 false) 5 false,
   o2 13 (.idx .nil) 5 false,
   o2 14 (.load 3 [] 0 (.t 13) 1 false) 5 false,
   o2 15 (.data (.bin .eql) [.t 12, .t 14]) 5 false,
   o2 16 (.copy 15) 5 false,
   o2 17 (.idx .nil) 11 true,
   o2 18 (.load 2 [] 1 (.t 17) 1 false) 11 true,
   o2 19 (.idx .nil) 11 true,
   o2 20 (.load 3 [] 1 (.t 19) 1 false) 11 true,
   o2 21 (.data (.bin .lss) [.t 18, .t 20]) 11 true,
   ⟨false, [], [], .pick 16 (.t 21) (.c (.bool false)), [22], (some 22), some (5, false)⟩,
   ⟨false, [], [], .pick 10 (.c (.bool true)) (.t 22), [23], (some 23), none⟩,
   o1 4 (.copy 23)]))
 .ret))
def s_sl05Less : Sig := ⟨[.rd true [.d, .d], .rd true [.d, .d]], (.one false [.d])⟩
noncomputable def E_sl05Less : TEnv := envOf []
noncomputable def f_sl05Less (n : Nat) : (Int × Int) × (Int × Int) → Option ((Bool) × Unit) := runFn n E_sl05Less c_sl05Less [[.i .i64, .i .i64], [.i .i64, .i .i64]] [.b] [] [4] .no
noncomputable def g_sl05Less := f_sl05Less BIG
noncomputable def p_sl05Less : TSp := ⟨s_sl05Less, [[.i .i64, .i .i64], [.i .i64, .i .i64]], [.b], [], Ou.j .no, g_sl05Less⟩
theorem k_sl05Less : chkW PG E_sl05Less 67 s_sl05Less (c_sl05Less.ht 24) .no = some (c_sl05Less.wc E_sl05Less, [4]) := by kernel_rfl
theorem ok_sl05Less : p_sl05Less.Ok PG 67 := mkOk (env_nil PG) k_sl05Less (by kernel_rfl)
theorem e_sl05Less (n : Nat) (a0 : Int × Int) (a1 : Int × Int) : f_sl05Less n (a0, a1) =
  Option.bind (bif decide (a0.1 < a1.1) then
    some true
   else bif decide (a0.1 = a1.1) then
    some (decide (a0.2 < a1.2))
   else some false : Option (Bool)) fun x0 =>
  some (x0, ()) := by kernel_rfl
/- spec.l05Put -/
def c_sl05Put : TC :=
 (.seq (.rg [o1 3 (.a (.t 1)),
   o1 4 (.lit [.sl [.i .i64, .i .i64]] [.slice none 0 0])])
 (.seq (.rg [o1 8 (.sli [.i .i64, .i .i64] []),
   ⟨false, [], [], .det 2 (.copy 8), [5, 8], (some 5), none⟩])
 (.seq (.join [⟨5, [.sl [.i .i64, .i .i64]], false⟩] 268435040 none (.seq (.rg [o1 6 (.lit [.i .i64] [.int .i64 (0)])])
 (.block 0 (.loop [⟨5, [.sl [.i .i64, .i .i64]], false⟩, ⟨6, [.i .i64], false⟩] 268435040
  (.seq (.seq (.rg [o1 9 (.copy 6),
    o1 10 (.copy 0),
    o1 11 (.len 10),
    o1 12 (.data (.bin .lss) [.t 9, .t 11])])
  (.cond (.t 12)
   .skip
   (.exit 0)))
  (.seq (.join [⟨5, [.sl [.i .i64, .i .i64]], false⟩] 268402720 none (.block 1 (.seq (.rg [o1 15 (.copy 0),
    o1 16 (.copy 6),
    o1 17 (.index 15 (.t 16)),
    o1 18 (.load 15 [(0, 2)] 0 (.t 17) 2 false),
    o1 19 (.load 3 [] 0 .nil 2 false),
    o3 20 67 [.t 18, .t 19]])
  (.cond (.t 20)
   (.rg [⟨false, [], [], .det 2 (.copy 5), [21, 5], (some 21), none⟩,
     o1 22 (.copy 0),
     o1 23 (.copy 6),
     o1 24 (.index 22 (.t 23)),
     o1 25 (.load 22 [(0, 2)] 0 (.t 24) 2 false),
     o1 26 (.sli [.i .i64, .i .i64] [.t 25]),
     ⟨false, [], [], .det 2 (.app (some 21) 26), [27, 21], (some 27), none⟩,
     ⟨false, [], [], .det 2 (.copy 27), [5, 27], (some 5), none⟩])
   .skip))))
  (.rg [o1 13 (.copy 6),
    o1 14 (.data (.bin .add) [.t 13, .c (.int .i64 (1))]),
    o1 6 (.copy 14)])))))))
 (.seq (.rg [⟨false, [], [], .det 2 (.copy 5), [28, 5], (some 28), none⟩,
   o1 29 (.load 3 [] 0 .nil 2 false),
   o1 30 (.sli [.i .i64, .i .i64] [.t 29]),
   ⟨false, [], [], .det 2 (.app (some 28) 30), [31, 28], (some 31), none⟩,
   ⟨false, [], [], .det 2 (.copy 31), [5, 31], (some 5), none⟩])
 (.seq (.join [⟨5, [.sl [.i .i64, .i .i64]], false⟩] 2251795518718112 none (.seq (.rg [o1 7 (.lit [.i .i64] [.int .i64 (0)])])
 (.block 2 (.loop [⟨5, [.sl [.i .i64, .i .i64]], false⟩, ⟨7, [.i .i64], false⟩] 2251795518718112
  (.seq (.seq (.rg [o1 32 (.copy 7),
    o1 33 (.copy 0),
    o1 34 (.len 33),
    o1 35 (.data (.bin .lss) [.t 32, .t 34])])
  (.cond (.t 35)
   .skip
   (.exit 2)))
  (.seq (.join [⟨5, [.sl [.i .i64, .i .i64]], false⟩] 2251524935778336 none (.block 3 (.seq (.rg [o1 39 (.copy 0),
    o1 40 (.copy 7),
    o1 38 (.load 3 [] 0 .nil 2 false),
    o1 41 (.index 39 (.t 40)),
    o1 42 (.load 39 [(0, 2)] 0 (.t 41) 2 false),
    o3 43 67 [.t 38, .t 42]])
  (.cond (.t 43)
   (.rg [⟨false, [], [], .det 2 (.copy 5), [44, 5], (some 44), none⟩,
     o1 45 (.copy 0),
     o1 46 (.copy 7),
     o1 47 (.index 45 (.t 46)),
     o1 48 (.load 45 [(0, 2)] 0 (.t 47) 2 false),
     o1 49 (.sli [.i .i64, .i .i64] [.t 48]),
     ⟨false, [], [], .det 2 (.app (some 44) 49), [50, 44], (some 50), none⟩,
     ⟨false, [], [], .det 2 (.copy 50), [5, 50], (some 5), none⟩])
   .skip))))
  (.rg [o1 36 (.copy 7),
    o1 37 (.data (.bin .add) [.t 36, .c (.int .i64 (1))]),
    o1 7 (.copy 37)])))))))
 (.seq (.rg [⟨false, [], [], .det 2 (.copy 5), [51, 5], (some 51), none⟩,
   ⟨false, [], [], .det 2 (.copy 51), [4, 51], (some 4), none⟩])
 .ret))))))
def s_sl05Put : Sig := ⟨[.rd false [.sl (.own none) [.d, .d]], .rd true [.d, .d]], (.one false [.sl (.own none) [.d, .d]])⟩
noncomputable def E_sl05Put : TEnv := envOf [(67, p_sl05Less)]
noncomputable def f_sl05Put (n : Nat) : (List (Int × Int)) × (Int × Int) → Option ((List (Int × Int)) × Unit) := runFn n E_sl05Put c_sl05Put [[.sl [.i .i64, .i .i64]], [.i .i64, .i .i64]] [.sl [.i .i64, .i .i64]] [] [4] .no
noncomputable def g_sl05Put := f_sl05Put BIG
noncomputable def p_sl05Put : TSp := ⟨s_sl05Put, [[.sl [.i .i64, .i .i64]], [.i .i64, .i .i64]], [.sl [.i .i64, .i .i64]], [], Ou.j .no, g_sl05Put⟩
theorem k_sl05Put : chkW PG E_sl05Put 65 s_sl05Put (c_sl05Put.ht 52) .no = some (c_sl05Put.wc E_sl05Put, [4]) := by kernel_rfl
theorem ok_sl05Put : p_sl05Put.Ok PG 65 := mkOk (env_cons ok_sl05Less (env_nil PG)) k_sl05Put (by kernel_rfl)
theorem e_sl05Put (n : Nat) (a0 : List (Int × Int)) (a1 : Int × Int) : f_sl05Put n (a0, a1) =
  Option.bind (loopT n (X := (List (Int × Int)) × Int) (B := (List (Int × Int))) (fun self1 x0 =>
    bif decide (x0.2 < (a0.length : Int)) then
     Option.bind (bnd a0.length x0.2 fun n2 =>
      Option.bind a0[n2]? fun y3 =>
      Option.bind (g_sl05Less (y3, a1)) fun r4 =>
      bif r4.1 then
       bnd a0.length x0.2 fun n5 =>
       Option.bind a0[n5]? fun y6 =>
       bif decide (x0.1.length + [y6].length ≤ 4294967296) then
        some (x0.1 ++ [y6])
       else none
      else some x0.1 : Option ((List (Int × Int)))) fun x7 =>
     self1 (x7, IntKind.wrap .i64 (x0.2 + (1 : Int)))
    else some x0.1) ([], (0 : Int)) : Option ((List (Int × Int)))) fun x8 =>
  bif decide (x8.length + [a1].length ≤ 4294967296) then
   Option.bind (loopT n (X := (List (Int × Int)) × Int) (B := (List (Int × Int))) (fun self10 x9 =>
     bif decide (x9.2 < (a0.length : Int)) then
      Option.bind (bnd a0.length x9.2 fun n11 =>
       Option.bind a0[n11]? fun y12 =>
       Option.bind (g_sl05Less (a1, y12)) fun r13 =>
       bif r13.1 then
        bnd a0.length x9.2 fun n14 =>
        Option.bind a0[n14]? fun y15 =>
        bif decide (x9.1.length + [y15].length ≤ 4294967296) then
         some (x9.1 ++ [y15])
        else none
       else some x9.1 : Option ((List (Int × Int)))) fun x16 =>
      self10 (x16, IntKind.wrap .i64 (x9.2 + (1 : Int)))
     else some x9.1) (x8 ++ [a1], (0 : Int)) : Option ((List (Int × Int)))) fun x17 =>
   some (x17, ())
  else none := by kernel_rfl
/- spec.EdgesOf -/
def c_sEdgesOf : TC :=
 (.seq (.rg [o1 1 (.a (.t 0)),
   o1 2 (.lit [.sl [.i .i64, .i .i64]] [.slice none 0 0])])
 (.seq (.rg [o1 7 (.sli [.i .i64, .i .i64] []),
   ⟨false, [], [], .det 2 (.copy 7), [3, 7], (some 3), none⟩])
 (.seq (.seq (.rg [o1 8 (.load 1 [] 0 .nil 2 false),
   o3 9 21 [.t 8],
   o1 10 (.data .not [.t 9])])
 (.cond (.t 10)
  (.seq (.rg [⟨false, [], [], .det 2 (.copy 3), [11, 3], (some 11), none⟩,
    ⟨false, [], [], .det 2 (.copy 11), [2, 11], (some 2), none⟩])
  .ret)
  .skip))
 (.seq (.join [⟨3, [.sl [.i .i64, .i .i64]], false⟩] 9007199254737016 none (.seq (.rg [o1 4 (.lit [.i .i64] [.int .i64 (0)])])
 (.block 0 (.loop [⟨3, [.sl [.i .i64, .i .i64]], false⟩, ⟨4, [.i .i64], false⟩] 9007199254737016
  (.seq (.seq (.rg [o1 12 (.copy 4),
    o1 13 (.idx .nil),
    o1 14 (.load 1 [] 1 (.t 13) 1 false),
    o1 15 (.len 14),
    o1 16 (.data (.bin .lss) [.t 12, .t 15])])
  (.cond (.t 16)
   .skip
   (.exit 0)))
  (.seq (.join [⟨3, [.sl [.i .i64, .i .i64]], false⟩] 9007199254216808 none (.block 1 (.seq (.rg [o1 19 (.idx .nil),
    o1 20 (.load 1 [] 1 (.t 19) 1 false),
    o1 21 (.copy 4),
    o1 22 (.index 20 (.t 21)),
    o1 23 (.load 20 [(0, 1)] 0 (.t 22) 1 false),
    o1 5 (.copy 23)])
  (.seq (.rg [o1 6 (.lit [.i .i64] [.int .i64 (0)])])
  (.block 2 (.loop [⟨3, [.sl [.i .i64, .i .i64]], false⟩, ⟨6, [.i .i64], false⟩] 9007199237963848
   (.seq (.seq (.rg [o1 24 (.copy 6),
     o1 25 (.data (.bin .add) [.t 24, .c (.int .i64 (1))]),
     o1 26 (.copy 5),
     o1 27 (.len 26),
     o1 28 (.data (.bin .lss) [.t 25, .t 27])])
   (.cond (.t 28)
    .skip
    (.exit 2)))
   (.seq (.join [⟨3, [.sl [.i .i64, .i .i64]], false⟩] 9007197107257352 none (.block 3 (.seq (.rg [o1 31 (.copy 5),
     o1 32 (.copy 6),
     o1 35 (.copy 5),
     o1 36 (.copy 6),
     o1 33 (.index 31 (.t 32)),
     o1 34 (.load 31 [(0, 1)] 0 (.t 33) 1 false),
     o1 37 (.data (.bin .add) [.t 36, .c (.int .i64 (1))]),
     o1 38 (.index 35 (.t 37)),
     o1 39 (.load 35 [(0, 1)] 0 (.t 38) 1 false),
     o1 40 (.data (.bin .lss) [.t 34, .t 39])])
   (.cond (.t 40)
    (.rg [⟨false, [], [], .det 2 (.copy 3), [41, 3], (some 41), none⟩,
      o1 42 (.copy 5),
      o1 43 (.copy 6),
      o1 46 (.copy 5),
      o1 47 (.copy 6),
      o1 44 (.index 42 (.t 43)),
      o1 45 (.load 42 [(0, 1)] 0 (.t 44) 1 false),
      o1 48 (.data (.bin .add) [.t 47, .c (.int .i64 (1))]),
      o1 49 (.index 46 (.t 48)),
      o1 50 (.load 46 [(0, 1)] 0 (.t 49) 1 false),
      o1 51 (.build [.i .i64, .i .i64] [(0, .t 45), (1, .t 50)]),
      o3 52 65 [.t 41, .t 51],
      ⟨false, [], [], .det 2 (.copy 52), [3, 52], (some 3), none⟩])
    .skip))))
   (.rg [o1 29 (.copy 6),
     o1 30 (.data (.bin .add) [.t 29, .c (.int .i64 (1))]),
     o1 6 (.copy 30)])))))))))
  (.rg [o1 17 (.copy 4),
    o1 18 (.data (.bin .add) [.t 17, .c (.int .i64 (1))]),
    o1 4 (.copy 18)])))))))
 (.seq (.rg [⟨false, [], [], .det 2 (.copy 3), [53, 3], (some 53), none⟩,
   ⟨false, [], [], .det 2 (.copy 53), [2, 53], (some 2), none⟩])
 .ret)))))
def s_sEdgesOf : Sig := ⟨[.rd true [.d, .sl (.own none) [.sl (.own none) [.d]]]], (.one false [.sl (.own none) [.d, .d]])⟩
noncomputable def E_sEdgesOf : TEnv := envOf [(21, p_sForestOk), (65, p_sl05Put)]
noncomputable def f_sEdgesOf (n : Nat) : (Int × List (List (Int))) → Option ((List (Int × Int)) × Unit) := runFn n E_sEdgesOf c_sEdgesOf [[.i .i64, .sl [.sl [.i .i64]]]] [.sl [.i .i64, .i .i64]] [] [2] .no
noncomputable def g_sEdgesOf := f_sEdgesOf BIG
noncomputable def p_sEdgesOf : TSp := ⟨s_sEdgesOf, [[.i .i64, .sl [.sl [.i .i64]]]], [.sl [.i .i64, .i .i64]], [], Ou.j .no, g_sEdgesOf⟩
theorem k_sEdgesOf : chkW PG E_sEdgesOf 69 s_sEdgesOf (c_sEdgesOf.ht 54) .no = some (c_sEdgesOf.wc E_sEdgesOf, [2]) := by kernel_rfl
theorem ok_sEdgesOf : p_sEdgesOf.Ok PG 69 := mkOk (env_cons ok_sForestOk (env_cons ok_sl05Put (env_nil PG))) k_sEdgesOf (by kernel_rfl)
theorem e_sEdgesOf (n : Nat) (a0 : Int × List ((List (Int)))) : f_sEdgesOf n a0 =
  Option.bind (g_sForestOk a0) fun r0 =>
  bif !r0.1 then
   some ([], ())
  else Option.bind (loopT n (X := (List (Int × Int)) × Int) (B := (List (Int × Int))) (fun self2 x1 =>
    bif decide (x1.2 < (a0.2.length : Int)) then
     Option.bind (bnd a0.2.length x1.2 fun n3 =>
      Option.bind a0.2[n3]? fun y4 =>
      loopT n (X := (List (Int × Int)) × Int) (B := (List (Int × Int))) (fun self6 x5 =>
       bif decide ((IntKind.wrap .i64 (x5.2 + (1 : Int))) < (y4.length : Int)) then
        Option.bind (bnd y4.length x5.2 fun n7 =>
         Option.bind y4[n7]? fun y8 =>
         bnd y4.length (IntKind.wrap .i64 (x5.2 + (1 : Int))) fun n9 =>
         Option.bind y4[n9]? fun y10 =>
         bif decide (y8 < y10) then
          bnd y4.length x5.2 fun n11 =>
          Option.bind y4[n11]? fun y12 =>
          bnd y4.length (IntKind.wrap .i64 (x5.2 + (1 : Int))) fun n13 =>
          Option.bind y4[n13]? fun y14 =>
          Option.bind (g_sl05Put (x5.1, (y12, y14))) fun r15 =>
          some r15.1
         else some x5.1 : Option ((List (Int × Int)))) fun x16 =>
        self6 (x16, IntKind.wrap .i64 (x5.2 + (1 : Int)))
       else some x5.1) (x1.1, (0 : Int)) : Option ((List (Int × Int)))) fun x17 =>
     self2 (x17, IntKind.wrap .i64 (x1.2 + (1 : Int)))
    else some x1.1) ([], (0 : Int)) : Option ((List (Int × Int)))) fun x18 =>
  some (x18, ()) := by kernel_rfl
/- spec.l01Once -/
def c_sl01Once : TC :=
 (.seq (.rg [o1 4 (.lit [.b] [.bool false])])
 (.seq (.rg [o1 5 (.p0),
   o1 6 (.copy 1),
   ⟨false, [], [], .call 2 55 [.t 0, .t 6] (.mp 0), [7, 0], (some 7), none⟩,
   o1 8 (.data (.bin .eql) [.t 7, .c (.int .i64 (0))]),
   o1 4 (.copy 8)])
 .ret))
def s_sl01Once : Sig := ⟨[.mp [.sl (.ro []) [.d], .d, .d], .rd false [.d]], (.one false [.d])⟩
noncomputable def E_sl01Once : TEnv := envOf [(55, p_sl01Below)]
noncomputable def f_sl01Once (n : Nat) : (List (Int) × Int × Int) × Int → Option ((Bool) × List (Int) × Int × Int) := runFn n E_sl01Once c_sl01Once [[.sl [.i .u8], .i .i64, .i .i64], [.i .i64]] [.b] [.sl [.i .u8], .i .i64, .i .i64] [4] (.mp 0)
noncomputable def g_sl01Once := f_sl01Once BIG
noncomputable def p_sl01Once : TSp := ⟨s_sl01Once, [[.sl [.i .u8], .i .i64, .i .i64], [.i .i64]], [.b], [.sl [.i .u8], .i .i64, .i .i64], Ou.j (.mp 0), g_sl01Once⟩
theorem k_sl01Once : chkW PG E_sl01Once 26 s_sl01Once (c_sl01Once.ht 9) (.mp 0) = some (c_sl01Once.wc E_sl01Once, [4]) := by kernel_rfl
theorem ok_sl01Once : p_sl01Once.Ok PG 26 := mkOk (env_cons ok_sl01Below (env_nil PG)) k_sl01Once (by kernel_rfl)
theorem e_sl01Once (n : Nat) (a0 : List (Int) × Int × Int) (a1 : Int) : f_sl01Once n (a0, a1) =
  Option.bind (g_sl01Below (a0, a1)) fun r0 =>
  some (decide (r0.1 = (0 : Int)), r0.2) := by kernel_rfl
/- spec.TreeOf -/
def c_sTreeOf : TC :=
 (.seq (.rg [o1 2 (.a (.t 0)),
   o1 4 (.lit [.i .i64] [.int .i64 (0)])])
 (.seq (.seq (.rg [o1 6 (.load 2 [] 0 .nil 2 false),
   o3 7 21 [.t 6],
   o1 8 (.data .not [.t 7])])
 (.cond (.t 8)
  (.seq (.rg [o1 4 (.lit [.i .i64] [.int .i64 (-1)])])
  .ret)
  .skip))
 (.seq (.join [] 16776752 (some [⟨4, [.i .i64], false⟩]) (.seq (.rg [o1 5 (.lit [.i .i64] [.int .i64 (0)])])
 (.block 0 (.loop [⟨5, [.i .i64], false⟩] 16776752
  (.seq (.seq (.rg [o1 9 (.copy 5),
    o1 10 (.idx .nil),
    o1 11 (.load 2 [] 1 (.t 10) 1 false),
    o1 12 (.len 11),
    o1 13 (.data (.bin .lss) [.t 9, .t 12])])
  (.cond (.t 13)
   .skip
   (.exit 0)))
  (.seq (.block 1 (.seq (.rg [o1 16 (.idx .nil),
    o1 17 (.load 2 [] 1 (.t 16) 1 false),
    o1 18 (.copy 5),
    o1 19 (.index 17 (.t 18)),
    o1 20 (.load 17 [(0, 1)] 0 (.t 19) 1 false),
    o1 21 (.copy 1),
    o3 22 53 [.t 20, .t 21]])
  (.cond (.t 22)
   (.seq (.rg [o1 23 (.copy 5),
     o1 4 (.copy 23)])
   .ret)
   .skip)))
  (.rg [o1 14 (.copy 5),
    o1 15 (.data (.bin .add) [.t 14, .c (.int .i64 (1))]),
    o1 5 (.copy 15)])))))))
 (.seq (.rg [o1 4 (.lit [.i .i64] [.int .i64 (-1)])])
 .ret))))
def s_sTreeOf : Sig := ⟨[.rd true [.d, .sl (.own none) [.sl (.own none) [.d]]], .rd false [.d]], (.one false [.d])⟩
noncomputable def E_sTreeOf : TEnv := envOf [(21, p_sForestOk), (53, p_sl05In)]
noncomputable def f_sTreeOf (n : Nat) : (Int × List (List (Int))) × Int → Option ((Int) × Unit) := runFn n E_sTreeOf c_sTreeOf [[.i .i64, .sl [.sl [.i .i64]]], [.i .i64]] [.i .i64] [] [4] .no
noncomputable def g_sTreeOf := f_sTreeOf BIG
noncomputable def p_sTreeOf : TSp := ⟨s_sTreeOf, [[.i .i64, .sl [.sl [.i .i64]]], [.i .i64]], [.i .i64], [], Ou.j .no, g_sTreeOf⟩
theorem k_sTreeOf : chkW PG E_sTreeOf 84 s_sTreeOf (c_sTreeOf.ht 24) .no = some (c_sTreeOf.wc E_sTreeOf, [4]) := by kernel_rfl
theorem ok_sTreeOf : p_sTreeOf.Ok PG 84 := mkOk (env_cons ok_sForestOk (env_cons ok_sl05In (env_nil PG))) k_sTreeOf (by kernel_rfl)
theorem e_sTreeOf (n : Nat) (a0 : Int × List ((List (Int)))) (a1 : Int) : f_sTreeOf n (a0, a1) =
  Option.bind (g_sForestOk a0) fun r0 =>
  bif !r0.1 then
   some ((-1 : Int), ())
  else Option.bind (loopT n (X := Int) (B := (Unit) ⊕ (Int)) (fun self2 x1 =>
    bif decide (x1 < (a0.2.length : Int)) then
     bnd a0.2.length x1 fun n3 =>
     Option.bind a0.2[n3]? fun y4 =>
     Option.bind (g_sl05In (y4, a1)) fun r5 =>
     bif r5.1 then
      some (Sum.inr x1)
     else self2 (IntKind.wrap .i64 (x1 + (1 : Int)))
    else some (Sum.inl ())) (0 : Int) : Option ((Unit) ⊕ (Int))) fun y => match y with
  | .inl x6 =>
   some ((-1 : Int), ())
  | .inr x6 =>
   some (x6, ()) := by kernel_rfl
/- spec.EdgeOk -/
def c_sEdgeOk : TC :=
 (.seq (.rg [o1 3 (.a (.t 1)),
   o1 4 (.lit [.b] [.bool false])])
 (.seq (.join [⟨4, [.b], false⟩] 268435440 none (.rg [o1 5 (.copy 0),
   o3 6 24 [.t 5, .c [.i .i64] [.int .i64 (1)], .c [.i .i64] [.int .i64 (12)]],
   o1 7 (.copy 6),
   o2 8 (.idx .nil) 2 true,
   o2 9 (.load 3 [] 0 (.t 8) 1 false) 2 true,
   o2 10 (.copy 0) 2 true,
   o2 11 (.data (.bin .sub) [.t 10, .c (.int .i64 (1))]) 2 true,
   ⟨false, [], [], .call 1 24 [.t 9, .c [.i .i64] [.int .i64 (0)], .t 11] .no, [12], (some 12), some (2, true)⟩,
   ⟨false, [], [], .pick 7 (.t 12) (.c (.bool false)), [13], (some 13), none⟩,
   o1 14 (.copy 13),
   o2 15 (.idx .nil) 9 true,
   o2 16 (.load 3 [] 1 (.t 15) 1 false) 9 true,
   o2 17 (.copy 0) 9 true,
   o2 18 (.data (.bin .sub) [.t 17, .c (.int .i64 (1))]) 9 true,
   ⟨false, [], [], .call 1 24 [.t 16, .c [.i .i64] [.int .i64 (0)], .t 18] .no, [19], (some 19), some (9, true)⟩,
   ⟨false, [], [], .pick 14 (.t 19) (.c (.bool false)), [20], (some 20), none⟩,
   o1 21 (.copy 20),
   o2 22 (.idx .nil) 16 true,
   o2 23 (.load 3 [] 0 (.t 22) 1 false) 16 true,
   o2 24 (.idx .nil) 16 true,
   o2 25 (.load 3 [] 1 (.t 24) 1 false) 16 true,
   o2 26 (.data (.bin .lss) [.t 23, .t 25]) 16 true,
   ⟨false, [], [], .pick 21 (.t 26) (.c (.bool false)), [27], (some 27), none⟩,
   o1 4 (.copy 27)]))
 .ret))
def s_sEdgeOk : Sig := ⟨[.rd false [.d], .rd true [.d, .d]], (.one false [.d])⟩
noncomputable def E_sEdgeOk : TEnv := envOf [(24, p_sl01In)]
noncomputable def f_sEdgeOk (n : Nat) : Int × (Int × Int) → Option ((Bool) × Unit) := runFn n E_sEdgeOk c_sEdgeOk [[.i .i64], [.i .i64, .i .i64]] [.b] [] [4] .no
noncomputable def g_sEdgeOk := f_sEdgeOk BIG
noncomputable def p_sEdgeOk : TSp := ⟨s_sEdgeOk, [[.i .i64], [.i .i64, .i .i64]], [.b], [], Ou.j .no, g_sEdgeOk⟩
theorem k_sEdgeOk : chkW PG E_sEdgeOk 63 s_sEdgeOk (c_sEdgeOk.ht 28) .no = some (c_sEdgeOk.wc E_sEdgeOk, [4]) := by kernel_rfl
theorem ok_sEdgeOk : p_sEdgeOk.Ok PG 63 := mkOk (env_cons ok_sl01In (env_nil PG)) k_sEdgeOk (by kernel_rfl)
theorem e_sEdgeOk (n : Nat) (a0 : Int) (a1 : Int × Int) : f_sEdgeOk n (a0, a1) =
  Option.bind (Option.bind (g_sl01In (a0, (1 : Int), (12 : Int))) fun r0 =>
   bif r0.1 then
    Option.bind (g_sl01In (a1.1, (0 : Int), IntKind.wrap .i64 (a0 - (1 : Int)))) fun r1 =>
    bif r1.1 then
     Option.bind (g_sl01In (a1.2, (0 : Int), IntKind.wrap .i64 (a0 - (1 : Int)))) fun r2 =>
     bif r2.1 then
      some (decide (a1.1 < a1.2))
     else some false
    else some false
   else some false : Option (Bool)) fun x3 =>
  some (x3, ()) := by kernel_rfl
/- spec.l06Going -/
def c_sl06Going : TC :=
 (.seq (.rg [o1 6 (.lit [.i .i64] [.int .i64 (0)])])
 (.seq (.join [] 2147483584 (some [⟨6, [.i .i64], false⟩]) (.seq (.rg [o1 7 (.lit [.i .i64] [.int .i64 (0)])])
 (.block 0 (.loop [⟨7, [.i .i64], false⟩] 2147483584
  (.seq (.seq (.rg [o1 8 (.copy 7),
    o1 9 (.data (.bin .add) [.t 8, .c (.int .i64 (1))]),
    o1 10 (.copy 0),
    o1 11 (.len 10),
    o1 12 (.data (.bin .lss) [.t 9, .t 11])])
  (.cond (.t 12)
   .skip
   (.exit 0)))
  (.seq (.join [] 2147450944 (some [⟨6, [.i .i64], false⟩]) (.block 1 (.seq (.join [⟨29, [.b], false⟩] 1073709056 none (.rg [o1 15 (.copy 0),
    o1 16 (.copy 7),
    o1 17 (.index 15 (.t 16)),
    o1 18 (.load 15 [(0, 1)] 0 (.t 17) 1 false),
    o1 19 (.copy 1),
    o1 20 (.data (.bin .eql) [.t 18, .t 19]),
    o1 21 (.copy 20),
    o2 22 (.copy 0) 6 true,
    o2 23 (.copy 7) 6 true,
    o2 24 (.data (.bin .add) [.t 23, .c (.int .i64 (1))]) 6 true,
    o2 25 (.index 22 (.t 24)) 6 true,
    o2 26 (.load 22 [(0, 1)] 0 (.t 25) 1 false) 6 true,
    o2 27 (.copy 2) 6 true,
    o2 28 (.data (.bin .eql) [.t 26, .t 27]) 6 true,
    ⟨false, [], [], .pick 21 (.t 28) (.c (.bool false)), [29], (some 29), none⟩]))
  (.cond (.t 29)
   (.seq (.rg [o1 30 (.copy 7),
     o1 6 (.copy 30)])
   .ret)
   .skip))))
  (.rg [o1 13 (.copy 7),
    o1 14 (.data (.bin .add) [.t 13, .c (.int .i64 (1))]),
    o1 7 (.copy 14)])))))))
 (.seq (.rg [o1 6 (.lit [.i .i64] [.int .i64 (-1)])])
 .ret)))
def s_sl06Going : Sig := ⟨[.rd false [.sl (.own none) [.d]], .rd false [.d], .rd false [.d]], (.one false [.d])⟩
noncomputable def E_sl06Going : TEnv := envOf []
noncomputable def f_sl06Going (n : Nat) : List (Int) × Int × Int → Option ((Int) × Unit) := runFn n E_sl06Going c_sl06Going [[.sl [.i .i64]], [.i .i64], [.i .i64]] [.i .i64] [] [6] .no
noncomputable def g_sl06Going := f_sl06Going BIG
noncomputable def p_sl06Going : TSp := ⟨s_sl06Going, [[.sl [.i .i64]], [.i .i64], [.i .i64]], [.i .i64], [], Ou.j .no, g_sl06Going⟩
theorem k_sl06Going : chkW PG E_sl06Going 88 s_sl06Going (c_sl06Going.ht 31) .no = some (c_sl06Going.wc E_sl06Going, [6]) := by kernel_rfl
theorem ok_sl06Going : p_sl06Going.Ok PG 88 := mkOk (env_nil PG) k_sl06Going (by kernel_rfl)
theorem e_sl06Going (n : Nat) (a0 : List (Int)) (a1 : Int) (a2 : Int) : f_sl06Going n (a0, a1, a2) =
  Option.bind (loopT n (X := Int) (B := (Unit) ⊕ (Int)) (fun self1 x0 =>
    bif decide ((IntKind.wrap .i64 (x0 + (1 : Int))) < (a0.length : Int)) then
     Option.bind (Option.bind (bnd a0.length x0 fun n2 =>
       Option.bind a0[n2]? fun y3 =>
       bif decide (y3 = a1) then
        bnd a0.length (IntKind.wrap .i64 (x0 + (1 : Int))) fun n4 =>
        Option.bind a0[n4]? fun y5 =>
        some (decide (y5 = a2))
       else some false : Option (Bool)) fun x6 =>
      bif x6 then
       some (Sum.inr x0)
      else some (Sum.inl ()) : Option ((Unit) ⊕ (Int))) fun y => match y with
     | .inl x7 =>
      self1 (IntKind.wrap .i64 (x0 + (1 : Int)))
     | .inr x7 =>
      some (Sum.inr x7)
    else some (Sum.inl ())) (0 : Int) : Option ((Unit) ⊕ (Int))) fun y => match y with
  | .inl x8 =>
   some ((-1 : Int), ())
  | .inr x8 =>
   some (x8, ()) := by kernel_rfl
/- spec.SplitTour -/
def c_sSplitTour : TC :=
 (.seq (.rg [o1 6 (.lit [.sl [.i .i64]] [.slice none 0 0]),
   o1 7 (.lit [.sl [.i .i64]] [.slice none 0 0]),
   o1 8 (.lit [.b] [.bool false])])
 (.seq (.rg [o1 13 (.sli [.i .i64] []),
   ⟨false, [], [], .det 2 (.copy 13), [9, 13], (some 9), none⟩])
 (.seq (.seq (.rg [o1 14 (.copy 0),
   o3 15 52 [.t 14],
   o1 16 (.data .not [.t 15])])
 (.cond (.t 16)
  (.seq (.rg [⟨true, [9], [], .det 1 (.copy 9), [17, 9], (some 17), none⟩,
    o1 18 (.copy 9),
    o1 6 (.copy 17),
    o1 7 (.copy 18),
    o1 8 (.lit [.b] [.bool false])])
  .ret)
  .skip))
 (.seq (.rg [o1 19 (.copy 0),
   o1 20 (.copy 1),
   o1 21 (.copy 2),
   o3 22 88 [.t 19, .t 20, .t 21],
   o1 10 (.copy 22)])
 (.seq (.rg [o1 23 (.copy 0),
   o1 24 (.copy 2),
   o1 25 (.copy 1),
   o3 26 88 [.t 23, .t 24, .t 25],
   o1 11 (.copy 26)])
 (.seq (.seq (.join [⟨32, [.b], false⟩] 8455716864 none (.rg [o1 27 (.copy 10),
   o1 28 (.data (.bin .lss) [.t 27, .c (.int .i64 (0))]),
   o1 29 (.copy 28),
   o2 30 (.copy 11) 2 false,
   o2 31 (.data (.bin .lss) [.t 30, .c (.int .i64 (0))]) 2 false,
   ⟨false, [], [], .pick 29 (.c (.bool true)) (.t 31), [32], (some 32), none⟩]))
 (.cond (.t 32)
  (.seq (.rg [⟨true, [9], [], .det 1 (.copy 9), [33, 9], (some 33), none⟩,
    o1 34 (.copy 9),
    o1 6 (.copy 33),
    o1 7 (.copy 34),
    o1 8 (.lit [.b] [.bool false])])
  .ret)
  .skip))
 (.seq (.join [⟨10, [.i .i64], false⟩, ⟨11, [.i .i64], false⟩] 1065151892480 none (.seq (.rg [o1 35 (.copy 11),
   o1 36 (.copy 10),
   o1 37 (.data (.bin .lss) [.t 35, .t 36])])
 (.cond (.t 37)
  (.rg [o1 38 (.copy 11),
    o1 39 (.copy 10),
    o1 10 (.copy 38),
    o1 11 (.copy 39)])
  .skip)))
 (.seq (.rg [o1 40 (.sli [.i .i64] []),
   o1 41 (.copy 0),
   o1 42 (.copy 10),
   o1 43 (.data (.bin .add) [.t 42, .c (.int .i64 (1))]),
   o1 44 (.res 41 none (some (.t 43))),
   ⟨false, [], [], .det 2 (.app (some 40) 44), [45, 40], (some 45), none⟩,
   ⟨false, [], [], .det 2 (.copy 45), [12, 45], (some 12), none⟩])
 (.seq (.rg [⟨false, [], [], .det 2 (.copy 12), [46, 12], (some 46), none⟩,
   o1 47 (.copy 0),
   o1 48 (.copy 11),
   o1 53 (.copy 0),
   o1 54 (.copy 10),
   o1 56 (.copy 11),
   o1 49 (.data (.bin .add) [.t 48, .c (.int .i64 (2))]),
   o1 50 (.res 47 (some (.t 49)) none),
   ⟨false, [], [], .det 2 (.app (some 46) 50), [51, 46], (some 51), none⟩,
   ⟨false, [], [46], .det 1 (.sli [.i .i64] []), [52], (some 52), none⟩,
   ⟨false, [], [46], .det 1 (.data (.bin .add) [.t 54, .c (.int .i64 (1))]), [55], (some 55), none⟩,
   ⟨false, [], [46], .det 1 (.data (.bin .add) [.t 56, .c (.int .i64 (1))]), [57], (some 57), none⟩,
   ⟨false, [], [46], .det 1 (.res 53 (some (.t 55)) (some (.t 57))), [58], (some 58), none⟩,
   ⟨false, [], [], .det 2 (.app (some 52) 58), [59, 52], (some 59), none⟩,
   ⟨false, [51], [], .det 1 (.copy 51), [6, 51], (some 6), none⟩,
   ⟨false, [59], [], .det 1 (.copy 59), [7, 59], (some 7), none⟩,
   o1 8 (.lit [.b] [.bool true])])
 .ret)))))))))
def s_sSplitTour : Sig := ⟨[.rd false [.sl (.own none) [.d]], .rd false [.d], .rd false [.d]], (.tup [(false, 1), (false, 1), (false, 1)] [.sl (.ro []) [.d], .sl (.ro []) [.d], .d])⟩
noncomputable def E_sSplitTour : TEnv := envOf [(52, p_sTourOk), (88, p_sl06Going)]
noncomputable def f_sSplitTour (n : Nat) : List (Int) × Int × Int → Option ((List (Int) × List (Int) × Bool) × Unit) := runFn n E_sSplitTour c_sSplitTour [[.sl [.i .i64]], [.i .i64], [.i .i64]] [.sl [.i .i64], .sl [.i .i64], .b] [] [6, 7, 8] .no
noncomputable def g_sSplitTour := f_sSplitTour BIG
noncomputable def p_sSplitTour : TSp := ⟨s_sSplitTour, [[.sl [.i .i64]], [.i .i64], [.i .i64]], [.sl [.i .i64], .sl [.i .i64], .b], [], Ou.j .no, g_sSplitTour⟩
theorem k_sSplitTour : chkW PG E_sSplitTour 85 s_sSplitTour (c_sSplitTour.ht 60) .no = some (c_sSplitTour.wc E_sSplitTour, [6, 7, 8]) := by kernel_rfl
theorem ok_sSplitTour : p_sSplitTour.Ok PG 85 := mkOk (env_cons ok_sTourOk (env_cons ok_sl06Going (env_nil PG))) k_sSplitTour (by kernel_rfl)
theorem e_sSplitTour (n : Nat) (a0 : List (Int)) (a1 : Int) (a2 : Int) : f_sSplitTour n (a0, a1, a2) =
  Option.bind (g_sTourOk a0) fun r0 =>
  bif !r0.1 then
   some (([], [], false), ())
  else Option.bind (g_sl06Going (a0, a1, a2)) fun r1 =>
  Option.bind (g_sl06Going (a0, a2, a1)) fun r2 =>
  Option.bind (bif decide (r1.1 < (0 : Int)) then
    some true
   else some (decide (r2.1 < (0 : Int))) : Option (Bool)) fun x3 =>
  bif x3 then
   some (([], [], false), ())
  else Option.bind (bif decide (r2.1 < r1.1) then
    some (r2.1, r1.1)
   else some (r1.1, r2.1) : Option (Int × Int)) fun x4 =>
  bif decide (0 ≤ (IntKind.wrap .i64 (x4.1 + (1 : Int)))) then
   bif decide (0 ≤ (Int.toNat (IntKind.wrap .i64 (x4.1 + (1 : Int)))) ∧ (Int.toNat (IntKind.wrap .i64 (x4.1 + (1 : Int)))) ≤ a0.length) then
    bif decide (0 + (List.take ((Int.toNat (IntKind.wrap .i64 (x4.1 + (1 : Int)))) - 0) (List.drop 0 a0)).length ≤ 4294967296) then
     bif decide (0 ≤ (IntKind.wrap .i64 (x4.2 + (2 : Int)))) then
      bif decide ((Int.toNat (IntKind.wrap .i64 (x4.2 + (2 : Int)))) ≤ a0.length ∧ a0.length ≤ a0.length) then
       bif decide (([] ++ (List.take ((Int.toNat (IntKind.wrap .i64 (x4.1 + (1 : Int)))) - 0) (List.drop 0 a0))).length + (List.take (a0.length - (Int.toNat (IntKind.wrap .i64 (x4.2 + (2 : Int))))) (List.drop (Int.toNat (IntKind.wrap .i64 (x4.2 + (2 : Int)))) a0)).length ≤ 4294967296) then
        bif decide (0 ≤ (IntKind.wrap .i64 (x4.1 + (1 : Int)))) then
         bif decide (0 ≤ (IntKind.wrap .i64 (x4.2 + (1 : Int)))) then
          bif decide ((Int.toNat (IntKind.wrap .i64 (x4.1 + (1 : Int)))) ≤ (Int.toNat (IntKind.wrap .i64 (x4.2 + (1 : Int)))) ∧ (Int.toNat (IntKind.wrap .i64 (x4.2 + (1 : Int)))) ≤ a0.length) then
           bif decide (0 + (List.take ((Int.toNat (IntKind.wrap .i64 (x4.2 + (1 : Int)))) - (Int.toNat (IntKind.wrap .i64 (x4.1 + (1 : Int))))) (List.drop (Int.toNat (IntKind.wrap .i64 (x4.1 + (1 : Int)))) a0)).length ≤ 4294967296) then
            some ((([] ++ (List.take ((Int.toNat (IntKind.wrap .i64 (x4.1 + (1 : Int)))) - 0) (List.drop 0 a0))) ++ (List.take (a0.length - (Int.toNat (IntKind.wrap .i64 (x4.2 + (2 : Int))))) (List.drop (Int.toNat (IntKind.wrap .i64 (x4.2 + (2 : Int)))) a0)), [] ++ (List.take ((Int.toNat (IntKind.wrap .i64 (x4.2 + (1 : Int)))) - (Int.toNat (IntKind.wrap .i64 (x4.1 + (1 : Int))))) (List.drop (Int.toNat (IntKind.wrap .i64 (x4.1 + (1 : Int)))) a0)), true), ())
           else none
          else none
         else none
        else none
       else none
      else none
     else none
    else none
   else none
  else none := by kernel_rfl
/- spec.l07With -/
def c_sl07With : TC :=
 (.seq (.rg [o1 3 (.a (.t 0)),
   ⟨false, [], [], .det 2 (.a (.c [.i .i64, .sl [.sl [.i .i64]]] [.int .i64 (0), .slice none 0 0])), [6, 1000000007], (some 6), none⟩])
 (.seq (.rg [o1 12 (.sli [.sl [.i .i64]] []),
   ⟨false, [], [], .det 2 (.copy 12), [7, 12], (some 7), none⟩])
 (.seq (.join [⟨7, [.sl [.sl [.i .i64]]], false⟩] 17179861376 none (.seq (.rg [o1 8 (.lit [.i .i64] [.int .i64 (0)])])
 (.block 0 (.loop [⟨7, [.sl [.sl [.i .i64]]], false⟩, ⟨8, [.i .i64], false⟩] 17179861376
  (.seq (.seq (.rg [o1 13 (.copy 8),
    o1 14 (.idx .nil),
    o1 15 (.load 3 [] 1 (.t 14) 1 false),
    o1 16 (.len 15),
    o1 17 (.data (.bin .lss) [.t 13, .t 16])])
  (.cond (.t 17)
   .skip
   (.exit 0)))
  (.seq (.join [⟨7, [.sl [.sl [.i .i64]]], false⟩] 17178820736 none (.block 1 (.seq (.rg [o1 20 (.copy 1),
    o1 21 (.copy 8),
    o3 22 53 [.t 20, .t 21],
    o1 23 (.data .not [.t 22])])
  (.cond (.t 23)
   (.rg [⟨false, [], [], .det 2 (.copy 7), [24, 7], (some 24), none⟩,
     o1 25 (.sli [.i .i64] []),
     o1 26 (.idx .nil),
     o1 27 (.load 3 [] 1 (.t 26) 1 false),
     o1 28 (.copy 8),
     o1 29 (.index 27 (.t 28)),
     o1 30 (.load 27 [(0, 1)] 0 (.t 29) 1 false),
     ⟨false, [], [], .det 2 (.app (some 25) 30), [31, 25], (some 31), none⟩,
     ⟨false, [], [], .det 2 (.sli [.sl [.i .i64]] [.t 31]), [32, 31], (some 32), none⟩,
     ⟨false, [], [], .det 3 (.app (some 24) 32), [33, 24, 32], (some 33), none⟩,
     ⟨false, [], [], .det 2 (.copy 33), [7, 33], (some 7), none⟩])
   .skip))))
  (.rg [o1 18 (.copy 8),
    o1 19 (.data (.bin .add) [.t 18, .c (.int .i64 (1))]),
    o1 8 (.copy 19)])))))))
 (.seq (.rg [⟨false, [], [], .det 2 (.copy 7), [34, 7], (some 34), none⟩,
   o1 35 (.copy 2),
   ⟨false, [34], [], .det 2 (.app (some 34) 35), [36, 34, 34], (some 36), none⟩,
   ⟨false, [], [], .det 2 (.copy 36), [7, 36], (some 7), none⟩])
 (.seq (.rg [o1 37 (.idx .nil),
   o1 38 (.load 3 [] 0 (.t 37) 1 false),
   o1 39 (.build [.i .i64, .sl [.sl [.i .i64]]] [(0, .t 38)]),
   ⟨false, [], [], .det 2 (.a (.c [.i .i64, .sl [.sl [.i .i64]]] [.int .i64 (0), .slice none 0 0])), [9, 1000000010], (some 9), none⟩,
   ⟨false, [39], [], .det 2 (.store 9 [] 0 .nil (.t 39)), [9, 39, 39], none, none⟩])
 (.seq (.join [⟨9, [.i .i64, .sl [.sl [.i .i64]]], false⟩] 1180591619617899679232 none (.seq (.rg [o1 10 (.lit [.i .i64] [.int .i64 (0)])])
 (.block 2 (.loop [⟨9, [.i .i64, .sl [.sl [.i .i64]]], false⟩, ⟨10, [.i .i64], false⟩] 649037107318034045185929940831744
  (.seq (.seq (.rg [o1 40 (.copy 10),
    o1 41 (.idx .nil),
    o1 42 (.load 3 [] 0 (.t 41) 1 false),
    o1 43 (.data (.bin .lss) [.t 40, .t 42])])
  (.cond (.t 43)
   .skip
   (.exit 2)))
  (.seq (.join [⟨9, [.i .i64, .sl [.sl [.i .i64]]], false⟩] 1180591550348667128320 none (.block 3 (.seq (.rg [o1 11 (.lit [.i .i64] [.int .i64 (0)])])
  (.block 4 (.loop [⟨9, [.i .i64, .sl [.sl [.i .i64]]], false⟩, ⟨11, [.i .i64], false⟩] 1180591550348667128320
   (.seq (.seq (.rg [o1 46 (.copy 11),
     ⟨true, [], [], .det 1 (.copy 7), [47], (some 47), none⟩,
     o1 48 (.len 47),
     o1 49 (.data (.bin .lss) [.t 46, .t 48])])
   (.cond (.t 49)
    .skip
    (.exit 4)))
   (.seq (.join [⟨9, [.i .i64, .sl [.sl [.i .i64]]], false⟩] 1180587117117783933440 none (.block 5 (.seq (.rg [⟨true, [], [], .det 1 (.copy 7), [52], (some 52), none⟩,
     o1 53 (.copy 11),
     o1 54 (.index 52 (.t 53)),
     o1 55 (.load 7 [(0, 1)] 0 (.t 54) 1 false),
     o3 56 51 [.t 55],
     o1 57 (.index 56 (.c (.int .i64 (0)))),
     o1 58 (.load 56 [(0, 1)] 0 (.t 57) 1 false),
     o1 59 (.copy 10),
     o1 60 (.data (.bin .eql) [.t 58, .t 59])])
   (.cond (.t 60)
    (.rg [⟨true, [], [], .det 1 (.copy 7), [63], (some 63), none⟩,
      o1 64 (.copy 11),
      o1 61 (.idx .nil),
      o1 62 (.load 9 [] 1 (.t 61) 1 true),
      o1 65 (.index 63 (.t 64)),
      o1 66 (.load 7 [(0, 1)] 0 (.t 65) 1 false),
      o1 67 (.sli [.sl [.i .i64]] [.t 66]),
      ⟨false, [62], [], .det 2 (.app (some 62) 67), [68, 62, 62, 9], (some 68), none⟩,
      o1 69 (.idx .nil),
      o4 2 [9, 68, 62] (.store 9 [] 1 (.t 69) (.t 68))])
    .skip))))
   (.rg [o1 50 (.copy 11),
     o1 51 (.data (.bin .add) [.t 50, .c (.int .i64 (1))]),
     o1 11 (.copy 51)]))))))))
  (.rg [o1 44 (.copy 10),
    o1 45 (.data (.bin .add) [.t 44, .c (.int .i64 (1))]),
    o1 10 (.copy 45)])))))))
 (.seq (.rg [o1 70 (.load 9 [] 0 .nil 2 true),
   ⟨false, [70], [], .det 2 (.store 6 [] 0 .nil (.t 70)), [6, 70, 70, 9], none, none⟩])
 .ret)))))))
def s_sl07With : Sig := ⟨[.rd true [.d, .sl (.own none) [.sl (.own none) [.d]]], .rd false [.sl (.own none) [.d]], .rd false [.sl (.own none) [.sl (.own none) [.d]]]], (.one true [.d, .sl (.own none) [.sl (.ro [2]) [.d]]])⟩
noncomputable def E_sl07With : TEnv := envOf [(53, p_sl05In), (51, p_sVertsOf)]
noncomputable def f_sl07With (n : Nat) : (Int × List (List (Int))) × List (Int) × List (List (Int)) → Option ((Int × List (List (Int))) × Unit) := runFn n E_sl07With c_sl07With [[.i .i64, .sl [.sl [.i .i64]]], [.sl [.i .i64]], [.sl [.sl [.i .i64]]]] [.i .i64, .sl [.sl [.i .i64]]] [] [6] .no
noncomputable def g_sl07With := f_sl07With BIG
noncomputable def p_sl07With : TSp := ⟨s_sl07With, [[.i .i64, .sl [.sl [.i .i64]]], [.sl [.i .i64]], [.sl [.sl [.i .i64]]]], [.i .i64, .sl [.sl [.i .i64]]], [], Ou.j .no, g_sl07With⟩
theorem k_sl07With : chkW PG E_sl07With 86 s_sl07With (c_sl07With.ht 71) .no = some (c_sl07With.wc E_sl07With, [6]) := by kernel_rfl
theorem ok_sl07With : p_sl07With.Ok PG 86 := mkOk (env_cons ok_sl05In (env_cons ok_sVertsOf (env_nil PG))) k_sl07With (by kernel_rfl)
theorem e_sl07With (n : Nat) (a0 : Int × List ((List (Int)))) (a1 : List (Int)) (a2 : List ((List (Int)))) : f_sl07With n (a0, a1, a2) =
  Option.bind (loopT n (X := (List ((List (Int)))) × Int) (B := (List ((List (Int))))) (fun self1 x0 =>
    bif decide (x0.2 < (a0.2.length : Int)) then
     Option.bind (Option.bind (g_sl05In (a1, x0.2)) fun r2 =>
      bif !r2.1 then
       bnd a0.2.length x0.2 fun n3 =>
       Option.bind a0.2[n3]? fun y4 =>
       bif decide (0 + y4.length ≤ 4294967296) then
        bif decide (x0.1.length + ([[] ++ y4]).length ≤ 4294967296) then
         some (x0.1 ++ ([[] ++ y4]))
        else none
       else none
      else some x0.1 : Option ((List ((List (Int)))))) fun x5 =>
     self1 (x5, IntKind.wrap .i64 (x0.2 + (1 : Int)))
    else some x0.1) ([], (0 : Int)) : Option ((List ((List (Int)))))) fun x6 =>
  bif decide (x6.length + a2.length ≤ 4294967296) then
   Option.bind (loopT n (X := (Int × List ((List (Int)))) × Int) (B := (Int × List ((List (Int))))) (fun self8 x7 =>
     bif decide (x7.2 < a0.1) then
      Option.bind (loopT n (X := (Int × List ((List (Int)))) × Int) (B := (Int × List ((List (Int))))) (fun self10 x9 =>
        bif decide (x9.2 < ((x6 ++ a2).length : Int)) then
         Option.bind (bnd (x6 ++ a2).length x9.2 fun n11 =>
          Option.bind (x6 ++ a2)[n11]? fun y12 =>
          Option.bind (g_sVertsOf y12) fun r13 =>
          bnd r13.1.length (0 : Int) fun n14 =>
          Option.bind r13.1[n14]? fun y15 =>
          bif decide (y15 = x7.2) then
           bnd (x6 ++ a2).length x9.2 fun n16 =>
           Option.bind (x6 ++ a2)[n16]? fun y17 =>
           bif decide (x9.1.2.length + [y17].length ≤ 4294967296) then
            some (x9.1.1, x9.1.2 ++ [y17])
           else none
          else some x9.1 : Option ((Int × List ((List (Int)))))) fun x18 =>
         self10 (x18, IntKind.wrap .i64 (x9.2 + (1 : Int)))
        else some x9.1) (x7.1, (0 : Int)) : Option ((Int × List ((List (Int)))))) fun x19 =>
      self8 (x19, IntKind.wrap .i64 (x7.2 + (1 : Int)))
     else some x7.1) ((a0.1, []), (0 : Int)) : Option ((Int × List ((List (Int)))))) fun x20 =>
   some (x20, ())
  else none := by kernel_rfl
/- spec.Cut -/
def c_sCut : TC :=
 (.seq (.rg [o1 2 (.a (.t 0)),
   o1 3 (.a (.t 1)),
   ⟨false, [], [], .det 2 (.a (.c [.i .i64, .sl [.sl [.i .i64]]] [.int .i64 (0), .slice none 0 0])), [4, 1000000005], (some 4), none⟩,
   o1 5 (.lit [.b] [.bool false])])
 (.seq (.rg [o1 10 (.load 2 [] 0 .nil 2 false),
   o1 11 (.idx .nil),
   o1 12 (.load 3 [] 0 (.t 11) 1 false),
   o3 13 84 [.t 10, .t 12],
   o1 6 (.copy 13)])
 (.seq (.seq (.join [⟨22, [.b], false⟩] 8372224 none (.rg [o1 14 (.idx .nil),
   o1 15 (.load 2 [] 0 (.t 14) 1 false),
   o1 16 (.load 3 [] 0 .nil 2 false),
   o3 17 63 [.t 15, .t 16],
   o1 18 (.data .not [.t 17]),
   o1 19 (.copy 18),
   o2 20 (.copy 6) 5 false,
   o2 21 (.data (.bin .lss) [.t 20, .c (.int .i64 (0))]) 5 false,
   ⟨false, [], [], .pick 19 (.c (.bool true)) (.t 21), [22], (some 22), none⟩]))
 (.cond (.t 22)
  (.seq (.rg [o1 23 (.build [.i .i64, .sl [.sl [.i .i64]]] []),
    ⟨false, [23], [], .det 2 (.store 4 [] 0 .nil (.t 23)), [4, 23, 23], none, none⟩,
    o1 5 (.lit [.b] [.bool false])])
  .ret)
  .skip))
 (.seq (.rg [o1 27 (.copy 6),
   o1 25 (.idx .nil),
   o1 26 (.load 2 [] 1 (.t 25) 1 false),
   o1 28 (.index 26 (.t 27)),
   o1 29 (.load 26 [(0, 1)] 0 (.t 28) 1 false),
   o1 30 (.idx .nil),
   o1 31 (.load 3 [] 0 (.t 30) 1 false),
   o1 32 (.idx .nil),
   o1 33 (.load 3 [] 1 (.t 32) 1 false),
   o3 34 85 [.t 29, .t 31, .t 33],
   ⟨false, [], [], .det 2 (.copy 34), [24, 34], (some 24), none⟩,
   o1 35 (.ext 24 0 1),
   o1 36 (.ext 24 1 1),
   o1 37 (.ext 24 2 1),
   o1 7 (.copy 35),
   o1 8 (.copy 36),
   o1 9 (.copy 37)])
 (.seq (.seq (.rg [o1 38 (.copy 9),
   o1 39 (.data .not [.t 38])])
 (.cond (.t 39)
  (.seq (.rg [o1 40 (.build [.i .i64, .sl [.sl [.i .i64]]] []),
    ⟨false, [40], [], .det 2 (.store 4 [] 0 .nil (.t 40)), [4, 40, 40], none, none⟩,
    o1 5 (.lit [.b] [.bool false])])
  .ret)
  .skip))
 (.seq (.rg [o1 41 (.load 2 [] 0 .nil 2 false),
   o1 42 (.copy 6),
   o1 43 (.sli [.i .i64] [.t 42]),
   o1 44 (.copy 7),
   o1 45 (.copy 8),
   o1 46 (.sli [.sl [.i .i64]] [.t 44, .t 45]),
   ⟨false, [43, 46, 46], [], .call 1 86 [.t 41, .t 43, .t 46] .no, [47, 46, 46, 43], (some 47), none⟩,
   o4 2 [4, 47] (.store 4 [] 0 .nil (.t 47)),
   o1 5 (.lit [.b] [.bool true])])
 .ret))))))
def s_sCut : Sig := ⟨[.rd true [.d, .sl (.own none) [.sl (.own none) [.d]]], .rd true [.d, .d]], (.tup [(true, 2), (false, 1)] [.d, .sl (.own none) [.sl (.ro [0]) [.d]], .d])⟩
noncomputable def E_sCut : TEnv := envOf [(84, p_sTreeOf), (63, p_sEdgeOk), (85, p_sSplitTour), (86, p_sl07With)]
noncomputable def f_sCut (n : Nat) : (Int × List (List (Int))) × (Int × Int) → Option ((Int × List (List (Int)) × Bool) × Unit) := runFn n E_sCut c_sCut [[.i .i64, .sl [.sl [.i .i64]]], [.i .i64, .i .i64]] [.i .i64, .sl [.sl [.i .i64]], .b] [] [4, 5] .no
noncomputable def g_sCut := f_sCut BIG
noncomputable def p_sCut : TSp := ⟨s_sCut, [[.i .i64, .sl [.sl [.i .i64]]], [.i .i64, .i .i64]], [.i .i64, .sl [.sl [.i .i64]], .b], [], Ou.j .no, g_sCut⟩
theorem k_sCut : chkW PG E_sCut 70 s_sCut (c_sCut.ht 48) .no = some (c_sCut.wc E_sCut, [4, 5]) := by kernel_rfl
theorem ok_sCut : p_sCut.Ok PG 70 := mkOk (env_cons ok_sTreeOf (env_cons ok_sEdgeOk (env_cons ok_sSplitTour (env_cons ok_sl07With (env_nil PG))))) k_sCut (by kernel_rfl)
theorem e_sCut (n : Nat) (a0 : Int × List ((List (Int)))) (a1 : Int × Int) : f_sCut n (a0, a1) =
  Option.bind (g_sTreeOf (a0, a1.1)) fun r0 =>
  Option.bind (Option.bind (g_sEdgeOk (a0.1, a1)) fun r1 =>
   bif !r1.1 then
    some true
   else some (decide (r0.1 < (0 : Int))) : Option (Bool)) fun x2 =>
  bif x2 then
   some (((0 : Int), [], false), ())
  else bnd a0.2.length r0.1 fun n3 =>
  Option.bind a0.2[n3]? fun y4 =>
  Option.bind (g_sSplitTour (y4, a1.1, a1.2)) fun r5 =>
  bif !r5.1.2.2 then
   some (((0 : Int), [], false), ())
  else Option.bind (g_sl07With (a0, [r0.1], [r5.1.1, r5.1.2.1])) fun r6 =>
  some ((r6.1.1, r6.1.2, true), ()) := by kernel_rfl
/- spec.l05Edge -/
def c_sl05Edge : TC :=
 (.seq (.rg [⟨false, [], [], .det 2 (.a (.c [.i .i64, .i .i64] [.int .i64 (0), .int .i64 (0)])), [4, 1000000005], (some 4), none⟩])
 (.seq (.rg [o1 7 (.p0),
   o1 8 (.copy 1),
   ⟨false, [], [], .call 2 55 [.t 0, .t 8] (.mp 0), [9, 0], (some 9), none⟩,
   o1 5 (.copy 9)])
 (.seq (.rg [o1 10 (.p0),
   o1 11 (.copy 1),
   ⟨false, [], [], .call 2 55 [.t 0, .t 11] (.mp 0), [12, 0], (some 12), none⟩,
   o1 6 (.copy 12)])
 (.seq (.join [⟨6, [.i .i64], false⟩] 1040448 none (.seq (.rg [o1 13 (.copy 5),
   o1 14 (.copy 6),
   o1 15 (.data (.bin .eql) [.t 13, .t 14])])
 (.cond (.t 15)
  (.rg [o1 16 (.copy 5),
    o1 17 (.data (.bin .add) [.t 16, .c (.int .i64 (1))]),
    o1 18 (.copy 1),
    o1 19 (.data (.bin .rem) [.t 17, .t 18]),
    o1 6 (.copy 19)])
  .skip)))
 (.seq (.seq (.rg [o1 20 (.copy 5),
   o1 21 (.copy 6),
   o1 22 (.data (.bin .gtr) [.t 20, .t 21])])
 (.cond (.t 22)
  (.seq (.rg [o1 23 (.copy 6),
    o1 24 (.copy 5),
    o1 25 (.build [.i .i64, .i .i64] [(0, .t 23), (1, .t 24)]),
    o4 1 [4] (.store 4 [] 0 .nil (.t 25))])
  .ret)
  .skip))
 (.seq (.rg [o1 26 (.copy 5),
   o1 27 (.copy 6),
   o1 28 (.build [.i .i64, .i .i64] [(0, .t 26), (1, .t 27)]),
   o4 1 [4] (.store 4 [] 0 .nil (.t 28))])
 .ret))))))
def s_sl05Edge : Sig := ⟨[.mp [.sl (.ro []) [.d], .d, .d], .rd false [.d]], (.one true [.d, .d])⟩
noncomputable def E_sl05Edge : TEnv := envOf [(55, p_sl01Below)]
noncomputable def f_sl05Edge (n : Nat) : (List (Int) × Int × Int) × Int → Option ((Int × Int) × List (Int) × Int × Int) := runFn n E_sl05Edge c_sl05Edge [[.sl [.i .u8], .i .i64, .i .i64], [.i .i64]] [.i .i64, .i .i64] [.sl [.i .u8], .i .i64, .i .i64] [4] (.mp 0)
noncomputable def g_sl05Edge := f_sl05Edge BIG
noncomputable def p_sl05Edge : TSp := ⟨s_sl05Edge, [[.sl [.i .u8], .i .i64, .i .i64], [.i .i64]], [.i .i64, .i .i64], [.sl [.i .u8], .i .i64, .i .i64], Ou.j (.mp 0), g_sl05Edge⟩
theorem k_sl05Edge : chkW PG E_sl05Edge 40 s_sl05Edge (c_sl05Edge.ht 29) (.mp 0) = some (c_sl05Edge.wc E_sl05Edge, [4]) := by kernel_rfl
theorem ok_sl05Edge : p_sl05Edge.Ok PG 40 := mkOk (env_cons ok_sl01Below (env_nil PG)) k_sl05Edge (by kernel_rfl)
theorem e_sl05Edge (n : Nat) (a0 : List (Int) × Int × Int) (a1 : Int) : f_sl05Edge n (a0, a1) =
  Option.bind (g_sl01Below (a0, a1)) fun r0 =>
  Option.bind (g_sl01Below (r0.2, a1)) fun r1 =>
  Option.bind (bif decide (r0.1 = r1.1) then
    bif decide (a1 = 0) then
     none
    else some (Int.tmod (IntKind.wrap .i64 (r0.1 + (1 : Int))) a1)
   else some r1.1 : Option (Int)) fun x2 =>
  bif decide (x2 < r0.1) then
   some ((x2, r0.1), r1.2)
  else some ((r0.1, x2), r1.2) := by kernel_rfl
/- spec.l06First -/
def c_sl06First : TC :=
 (.seq (.rg [o1 4 (.lit [.i .i64] [.int .i64 (0)])])
 (.seq (.join [] 524272 (some [⟨4, [.i .i64], false⟩]) (.seq (.rg [o1 5 (.lit [.i .i64] [.int .i64 (0)])])
 (.block 0 (.loop [⟨5, [.i .i64], false⟩] 524272
  (.seq (.seq (.rg [o1 6 (.copy 5),
    o1 7 (.copy 0),
    o1 8 (.len 7),
    o1 9 (.data (.bin .lss) [.t 6, .t 8])])
  (.cond (.t 9)
   .skip
   (.exit 0)))
  (.seq (.block 1 (.seq (.rg [o1 12 (.copy 0),
    o1 13 (.copy 5),
    o1 14 (.index 12 (.t 13)),
    o1 15 (.load 12 [(0, 1)] 0 (.t 14) 1 false),
    o1 16 (.copy 1),
    o1 17 (.data (.bin .eql) [.t 15, .t 16])])
  (.cond (.t 17)
   (.seq (.rg [o1 18 (.copy 5),
     o1 4 (.copy 18)])
   .ret)
   .skip)))
  (.rg [o1 10 (.copy 5),
    o1 11 (.data (.bin .add) [.t 10, .c (.int .i64 (1))]),
    o1 5 (.copy 11)])))))))
 (.seq (.rg [o1 4 (.lit [.i .i64] [.int .i64 (-1)])])
 .ret)))
def s_sl06First : Sig := ⟨[.rd false [.sl (.own none) [.d]], .rd false [.d]], (.one false [.d])⟩
noncomputable def E_sl06First : TEnv := envOf []
noncomputable def f_sl06First (n : Nat) : List (Int) × Int → Option ((Int) × Unit) := runFn n E_sl06First c_sl06First [[.sl [.i .i64]], [.i .i64]] [.i .i64] [] [4] .no
noncomputable def g_sl06First := f_sl06First BIG
noncomputable def p_sl06First : TSp := ⟨s_sl06First, [[.sl [.i .i64]], [.i .i64]], [.i .i64], [], Ou.j .no, g_sl06First⟩
theorem k_sl06First : chkW PG E_sl06First 89 s_sl06First (c_sl06First.ht 19) .no = some (c_sl06First.wc E_sl06First, [4]) := by kernel_rfl
theorem ok_sl06First : p_sl06First.Ok PG 89 := mkOk (env_nil PG) k_sl06First (by kernel_rfl)
theorem e_sl06First (n : Nat) (a0 : List (Int)) (a1 : Int) : f_sl06First n (a0, a1) =
  Option.bind (loopT n (X := Int) (B := (Unit) ⊕ (Int)) (fun self1 x0 =>
    bif decide (x0 < (a0.length : Int)) then
     bnd a0.length x0 fun n2 =>
     Option.bind a0[n2]? fun y3 =>
     bif decide (y3 = a1) then
      some (Sum.inr x0)
     else self1 (IntKind.wrap .i64 (x0 + (1 : Int)))
    else some (Sum.inl ())) (0 : Int) : Option ((Unit) ⊕ (Int))) fun y => match y with
  | .inl x4 =>
   some ((-1 : Int), ())
  | .inr x4 =>
   some (x4, ()) := by kernel_rfl
/- spec.Reroot -/
def c_sReroot : TC :=
 (.seq (.rg [o1 4 (.lit [.sl [.i .i64]] [.slice none 0 0]),
   o1 5 (.lit [.b] [.bool false])])
 (.seq (.seq (.join [⟨16, [.b], false⟩] 130816 none (.rg [o1 8 (.copy 0),
   o3 9 52 [.t 8],
   o1 10 (.data .not [.t 9]),
   o1 11 (.copy 10),
   o2 12 (.copy 0) 3 false,
   o2 13 (.copy 1) 3 false,
   ⟨false, [], [], .call 1 89 [.t 12, .t 13] .no, [14], (some 14), some (3, false)⟩,
   o2 15 (.data (.bin .lss) [.t 14, .c (.int .i64 (0))]) 3 false,
   ⟨false, [], [], .pick 11 (.c (.bool true)) (.t 15), [16], (some 16), none⟩]))
 (.cond (.t 16)
  (.seq (.rg [o1 17 (.sli [.i .i64] []),
    ⟨false, [], [], .det 2 (.copy 17), [4, 17], (some 4), none⟩,
    o1 5 (.lit [.b] [.bool false])])
  .ret)
  .skip))
 (.seq (.rg [o1 18 (.copy 0),
   o1 19 (.copy 1),
   o3 20 89 [.t 18, .t 19],
   o1 6 (.copy 20)])
 (.seq (.seq (.rg [o1 21 (.copy 6),
   o1 22 (.data (.bin .eql) [.t 21, .c (.int .i64 (0))])])
 (.cond (.t 22)
  (.seq (.rg [o1 23 (.sli [.i .i64] []),
    o1 24 (.copy 0),
    ⟨false, [], [], .det 2 (.app (some 23) 24), [25, 23], (some 25), none⟩,
    ⟨false, [], [], .det 2 (.copy 25), [4, 25], (some 4), none⟩,
    o1 5 (.lit [.b] [.bool true])])
  .ret)
  .skip))
 (.seq (.rg [o1 26 (.sli [.i .i64] []),
   o1 27 (.copy 0),
   o1 28 (.copy 6),
   o1 29 (.copy 0),
   o1 30 (.len 29),
   o1 31 (.data (.bin .sub) [.t 30, .c (.int .i64 (1))]),
   o1 32 (.res 27 (some (.t 28)) (some (.t 31))),
   ⟨false, [], [], .det 2 (.app (some 26) 32), [33, 26], (some 33), none⟩,
   ⟨false, [], [], .det 2 (.copy 33), [7, 33], (some 7), none⟩])
 (.seq (.rg [⟨false, [], [], .det 2 (.copy 7), [34, 7], (some 34), none⟩,
   o1 35 (.copy 0),
   o1 36 (.copy 6),
   o1 37 (.res 35 none (some (.t 36))),
   ⟨false, [], [], .det 2 (.app (some 34) 37), [38, 34], (some 38), none⟩,
   ⟨false, [], [], .det 2 (.copy 38), [7, 38], (some 7), none⟩])
 (.seq (.rg [⟨false, [], [], .det 2 (.copy 7), [39, 7], (some 39), none⟩,
   o1 40 (.copy 1),
   o1 41 (.sli [.i .i64] [.t 40]),
   ⟨false, [], [], .det 2 (.app (some 39) 41), [42, 39], (some 42), none⟩,
   ⟨false, [], [], .det 2 (.copy 42), [4, 42], (some 4), none⟩,
   o1 5 (.lit [.b] [.bool true])])
 .ret)))))))
def s_sReroot : Sig := ⟨[.rd false [.sl (.own none) [.d]], .rd false [.d]], (.tup [(false, 1), (false, 1)] [.sl (.own none) [.d], .d])⟩
noncomputable def E_sReroot : TEnv := envOf [(52, p_sTourOk), (89, p_sl06First)]
noncomputable def f_sReroot (n : Nat) : List (Int) × Int → Option ((List (Int) × Bool) × Unit) := runFn n E_sReroot c_sReroot [[.sl [.i .i64]], [.i .i64]] [.sl [.i .i64], .b] [] [4, 5] .no
noncomputable def g_sReroot := f_sReroot BIG
noncomputable def p_sReroot : TSp := ⟨s_sReroot, [[.sl [.i .i64]], [.i .i64]], [.sl [.i .i64], .b], [], Ou.j .no, g_sReroot⟩
theorem k_sReroot : chkW PG E_sReroot 90 s_sReroot (c_sReroot.ht 43) .no = some (c_sReroot.wc E_sReroot, [4, 5]) := by kernel_rfl
theorem ok_sReroot : p_sReroot.Ok PG 90 := mkOk (env_cons ok_sTourOk (env_cons ok_sl06First (env_nil PG))) k_sReroot (by kernel_rfl)
theorem e_sReroot (n : Nat) (a0 : List (Int)) (a1 : Int) : f_sReroot n (a0, a1) =
  Option.bind (Option.bind (g_sTourOk a0) fun r0 =>
   bif !r0.1 then
    some true
   else Option.bind (g_sl06First (a0, a1)) fun r1 =>
   some (decide (r1.1 < (0 : Int))) : Option (Bool)) fun x2 =>
  bif x2 then
   some (([], false), ())
  else Option.bind (g_sl06First (a0, a1)) fun r3 =>
  bif decide (r3.1 = (0 : Int)) then
   bif decide (0 + a0.length ≤ 4294967296) then
    some (([] ++ a0, true), ())
   else none
  else bif decide (0 ≤ r3.1) then
   bif decide (0 ≤ (IntKind.wrap .i64 ((a0.length : Int) - (1 : Int)))) then
    bif decide ((Int.toNat r3.1) ≤ (Int.toNat (IntKind.wrap .i64 ((a0.length : Int) - (1 : Int)))) ∧ (Int.toNat (IntKind.wrap .i64 ((a0.length : Int) - (1 : Int)))) ≤ a0.length) then
     bif decide (0 + (List.take ((Int.toNat (IntKind.wrap .i64 ((a0.length : Int) - (1 : Int)))) - (Int.toNat r3.1)) (List.drop (Int.toNat r3.1) a0)).length ≤ 4294967296) then
      bif decide (0 ≤ r3.1) then
       bif decide (0 ≤ (Int.toNat r3.1) ∧ (Int.toNat r3.1) ≤ a0.length) then
        bif decide (([] ++ (List.take ((Int.toNat (IntKind.wrap .i64 ((a0.length : Int) - (1 : Int)))) - (Int.toNat r3.1)) (List.drop (Int.toNat r3.1) a0))).length + (List.take ((Int.toNat r3.1) - 0) (List.drop 0 a0)).length ≤ 4294967296) then
         bif decide ((([] ++ (List.take ((Int.toNat (IntKind.wrap .i64 ((a0.length : Int) - (1 : Int)))) - (Int.toNat r3.1)) (List.drop (Int.toNat r3.1) a0))) ++ (List.take ((Int.toNat r3.1) - 0) (List.drop 0 a0))).length + [a1].length ≤ 4294967296) then
          some (((([] ++ (List.take ((Int.toNat (IntKind.wrap .i64 ((a0.length : Int) - (1 : Int)))) - (Int.toNat r3.1)) (List.drop (Int.toNat r3.1) a0))) ++ (List.take ((Int.toNat r3.1) - 0) (List.drop 0 a0))) ++ [a1], true), ())
         else none
        else none
       else none
      else none
     else none
    else none
   else none
  else none := by kernel_rfl
/- spec.l06Last -/
def c_sl06Last : TC :=
 (.seq (.rg [o1 4 (.lit [.i .i64] [.int .i64 (0)])])
 (.seq (.join [] 1048560 (some [⟨4, [.i .i64], false⟩]) (.seq (.rg [o1 6 (.copy 0),
   o1 7 (.len 6),
   o1 8 (.data (.bin .sub) [.t 7, .c (.int .i64 (1))]),
   o1 5 (.copy 8)])
 (.block 0 (.loop [⟨5, [.i .i64], false⟩] 1048112
  (.seq (.seq (.rg [o1 9 (.copy 5),
    o1 10 (.data (.bin .geq) [.t 9, .c (.int .i64 (0))])])
  (.cond (.t 10)
   .skip
   (.exit 0)))
  (.seq (.block 1 (.seq (.rg [o1 13 (.copy 0),
    o1 14 (.copy 5),
    o1 15 (.index 13 (.t 14)),
    o1 16 (.load 13 [(0, 1)] 0 (.t 15) 1 false),
    o1 17 (.copy 1),
    o1 18 (.data (.bin .eql) [.t 16, .t 17])])
  (.cond (.t 18)
   (.seq (.rg [o1 19 (.copy 5),
     o1 4 (.copy 19)])
   .ret)
   .skip)))
  (.rg [o1 11 (.copy 5),
    o1 12 (.data (.bin .sub) [.t 11, .c (.int .i64 (1))]),
    o1 5 (.copy 12)])))))))
 (.seq (.rg [o1 4 (.lit [.i .i64] [.int .i64 (-1)])])
 .ret)))
def s_sl06Last : Sig := ⟨[.rd false [.sl (.own none) [.d]], .rd false [.d]], (.one false [.d])⟩
noncomputable def E_sl06Last : TEnv := envOf []
noncomputable def f_sl06Last (n : Nat) : List (Int) × Int → Option ((Int) × Unit) := runFn n E_sl06Last c_sl06Last [[.sl [.i .i64]], [.i .i64]] [.i .i64] [] [4] .no
noncomputable def g_sl06Last := f_sl06Last BIG
noncomputable def p_sl06Last : TSp := ⟨s_sl06Last, [[.sl [.i .i64]], [.i .i64]], [.i .i64], [], Ou.j .no, g_sl06Last⟩
theorem k_sl06Last : chkW PG E_sl06Last 91 s_sl06Last (c_sl06Last.ht 20) .no = some (c_sl06Last.wc E_sl06Last, [4]) := by kernel_rfl
theorem ok_sl06Last : p_sl06Last.Ok PG 91 := mkOk (env_nil PG) k_sl06Last (by kernel_rfl)
theorem e_sl06Last (n : Nat) (a0 : List (Int)) (a1 : Int) : f_sl06Last n (a0, a1) =
  Option.bind (loopT n (X := Int) (B := (Unit) ⊕ (Int)) (fun self1 x0 =>
    bif decide ((0 : Int) ≤ x0) then
     bnd a0.length x0 fun n2 =>
     Option.bind a0[n2]? fun y3 =>
     bif decide (y3 = a1) then
      some (Sum.inr x0)
     else self1 (IntKind.wrap .i64 (x0 - (1 : Int)))
    else some (Sum.inl ())) (IntKind.wrap .i64 ((a0.length : Int) - (1 : Int))) : Option ((Unit) ⊕ (Int))) fun y => match y with
  | .inl x4 =>
   some ((-1 : Int), ())
  | .inr x4 =>
   some (x4, ()) := by kernel_rfl
/- spec.JoinTours -/
def c_sJoinTours : TC :=
 (.seq (.rg [o1 8 (.lit [.sl [.i .i64]] [.slice none 0 0]),
   o1 9 (.lit [.b] [.bool false])])
 (.seq (.seq (.join [⟨34, [.b], false⟩] 34359705600 none (.rg [o1 15 (.copy 0),
   o3 16 52 [.t 15],
   o1 17 (.data .not [.t 16]),
   o1 18 (.copy 17),
   o2 19 (.copy 2) 3 false,
   ⟨false, [], [], .call 1 52 [.t 19] .no, [20], (some 20), some (3, false)⟩,
   o2 21 (.data .not [.t 20]) 3 false,
   ⟨false, [], [], .pick 18 (.c (.bool true)) (.t 21), [22], (some 22), none⟩,
   o1 23 (.copy 22),
   o2 24 (.copy 0) 8 false,
   o2 25 (.copy 1) 8 false,
   ⟨false, [], [], .call 1 89 [.t 24, .t 25] .no, [26], (some 26), some (8, false)⟩,
   o2 27 (.data (.bin .lss) [.t 26, .c (.int .i64 (0))]) 8 false,
   ⟨false, [], [], .pick 23 (.c (.bool true)) (.t 27), [28], (some 28), none⟩,
   o1 29 (.copy 28),
   o2 30 (.copy 2) 14 false,
   o2 31 (.copy 3) 14 false,
   ⟨false, [], [], .call 1 89 [.t 30, .t 31] .no, [32], (some 32), some (14, false)⟩,
   o2 33 (.data (.bin .lss) [.t 32, .c (.int .i64 (0))]) 14 false,
   ⟨false, [], [], .pick 29 (.c (.bool true)) (.t 33), [34], (some 34), none⟩]))
 (.cond (.t 34)
  (.seq (.rg [o1 35 (.sli [.i .i64] []),
    ⟨false, [], [], .det 2 (.copy 35), [8, 35], (some 8), none⟩,
    o1 9 (.lit [.b] [.bool false])])
  .ret)
  .skip))
 (.seq (.join [] 562881233946368 (some [⟨8, [.sl [.i .i64]], false⟩, ⟨9, [.b], false⟩]) (.seq (.rg [o1 10 (.lit [.i .i64] [.int .i64 (0)])])
 (.block 0 (.loop [⟨10, [.i .i64], false⟩] 562881233946368
  (.seq (.seq (.rg [o1 36 (.copy 10),
    o1 37 (.copy 2),
    o1 38 (.len 37),
    o1 39 (.data (.bin .lss) [.t 36, .t 38])])
  (.cond (.t 39)
   .skip
   (.exit 0)))
  (.seq (.block 1 (.seq (.rg [o1 42 (.copy 0),
    o1 43 (.copy 2),
    o1 44 (.copy 10),
    o1 45 (.index 43 (.t 44)),
    o1 46 (.load 43 [(0, 1)] 0 (.t 45) 1 false),
    o3 47 53 [.t 42, .t 46]])
  (.cond (.t 47)
   (.seq (.rg [o1 48 (.sli [.i .i64] []),
     ⟨false, [], [], .det 2 (.copy 48), [8, 48], (some 8), none⟩,
     o1 9 (.lit [.b] [.bool false])])
   .ret)
   .skip)))
  (.rg [o1 40 (.copy 10),
    o1 41 (.data (.bin .add) [.t 40, .c (.int .i64 (1))]),
    o1 10 (.copy 41)])))))))
 (.seq (.rg [o1 50 (.copy 2),
   o1 51 (.copy 3),
   o3 52 90 [.t 50, .t 51],
   ⟨false, [], [], .det 2 (.copy 52), [49, 52], (some 49), none⟩,
   ⟨false, [], [], .det 2 (.ext 49 0 1), [53, 49], (some 53), none⟩,
   o1 54 (.ext 49 1 1),
   ⟨false, [], [], .det 2 (.copy 53), [11, 53], (some 11), none⟩,
   o1 12 (.copy 54)])
 (.seq (.rg [o1 55 (.copy 0),
   o1 56 (.copy 1),
   o3 57 91 [.t 55, .t 56],
   o1 13 (.copy 57)])
 (.seq (.rg [o1 58 (.sli [.i .i64] []),
   o1 59 (.copy 0),
   o1 60 (.copy 13),
   o1 61 (.data (.bin .add) [.t 60, .c (.int .i64 (1))]),
   o1 62 (.res 59 none (some (.t 61))),
   ⟨false, [], [], .det 2 (.app (some 58) 62), [63, 58], (some 63), none⟩,
   ⟨false, [], [], .det 2 (.copy 63), [14, 63], (some 14), none⟩])
 (.seq (.rg [⟨false, [], [], .det 2 (.copy 14), [64, 14], (some 64), none⟩,
   ⟨false, [], [], .det 2 (.copy 11), [65, 11], (some 65), none⟩,
   ⟨false, [], [], .det 2 (.app (some 64) 65), [66, 64], (some 66), none⟩,
   ⟨false, [], [], .det 2 (.copy 66), [14, 66], (some 14), none⟩])
 (.seq (.rg [⟨false, [], [], .det 2 (.copy 14), [67, 14], (some 67), none⟩,
   o1 68 (.copy 0),
   o1 69 (.copy 13),
   o1 70 (.res 68 (some (.t 69)) none),
   ⟨false, [], [], .det 2 (.app (some 67) 70), [71, 67], (some 71), none⟩,
   ⟨false, [], [], .det 2 (.copy 71), [8, 71], (some 8), none⟩,
   o1 9 (.lit [.b] [.bool true])])
 .ret))))))))
def s_sJoinTours : Sig := ⟨[.rd false [.sl (.own none) [.d]], .rd false [.d], .rd false [.sl (.own none) [.d]], .rd false [.d]], (.tup [(false, 1), (false, 1)] [.sl (.own none) [.d], .d])⟩
noncomputable def E_sJoinTours : TEnv := envOf [(52, p_sTourOk), (89, p_sl06First), (53, p_sl05In), (90, p_sReroot), (91, p_sl06Last)]
noncomputable def f_sJoinTours (n : Nat) : List (Int) × Int × List (Int) × Int → Option ((List (Int) × Bool) × Unit) := runFn n E_sJoinTours c_sJoinTours [[.sl [.i .i64]], [.i .i64], [.sl [.i .i64]], [.i .i64]] [.sl [.i .i64], .b] [] [8, 9] .no
noncomputable def g_sJoinTours := f_sJoinTours BIG
noncomputable def p_sJoinTours : TSp := ⟨s_sJoinTours, [[.sl [.i .i64]], [.i .i64], [.sl [.i .i64]], [.i .i64]], [.sl [.i .i64], .b], [], Ou.j .no, g_sJoinTours⟩
theorem k_sJoinTours : chkW PG E_sJoinTours 87 s_sJoinTours (c_sJoinTours.ht 72) .no = some (c_sJoinTours.wc E_sJoinTours, [8, 9]) := by kernel_rfl
theorem ok_sJoinTours : p_sJoinTours.Ok PG 87 := mkOk (env_cons ok_sTourOk (env_cons ok_sl06First (env_cons ok_sl05In (env_cons ok_sReroot (env_cons ok_sl06Last (env_nil PG)))))) k_sJoinTours (by kernel_rfl)
theorem e_sJoinTours (n : Nat) (a0 : List (Int)) (a1 : Int) (a2 : List (Int)) (a3 : Int) : f_sJoinTours n (a0, a1, a2, a3) =
  Option.bind (Option.bind (g_sTourOk a0) fun r0 =>
   bif !r0.1 then
    some true
   else Option.bind (g_sTourOk a2) fun r1 =>
   bif !r1.1 then
    some true
   else Option.bind (g_sl06First (a0, a1)) fun r2 =>
   bif decide (r2.1 < (0 : Int)) then
    some true
   else Option.bind (g_sl06First (a2, a3)) fun r3 =>
   some (decide (r3.1 < (0 : Int))) : Option (Bool)) fun x4 =>
  bif x4 then
   some (([], false), ())
  else Option.bind (loopT n (X := Int) (B := (Unit) ⊕ ((List (Int)) × Bool)) (fun self6 x5 =>
    bif decide (x5 < (a2.length : Int)) then
     bnd a2.length x5 fun n7 =>
     Option.bind a2[n7]? fun y8 =>
     Option.bind (g_sl05In (a0, y8)) fun r9 =>
     bif r9.1 then
      some (Sum.inr ([], false))
     else self6 (IntKind.wrap .i64 (x5 + (1 : Int)))
    else some (Sum.inl ())) (0 : Int) : Option ((Unit) ⊕ ((List (Int)) × Bool))) fun y => match y with
  | .inl x10 =>
   Option.bind (g_sReroot (a2, a3)) fun r11 =>
   Option.bind (g_sl06Last (a0, a1)) fun r12 =>
   bif decide (0 ≤ (IntKind.wrap .i64 (r12.1 + (1 : Int)))) then
    bif decide (0 ≤ (Int.toNat (IntKind.wrap .i64 (r12.1 + (1 : Int)))) ∧ (Int.toNat (IntKind.wrap .i64 (r12.1 + (1 : Int)))) ≤ a0.length) then
     bif decide (0 + (List.take ((Int.toNat (IntKind.wrap .i64 (r12.1 + (1 : Int)))) - 0) (List.drop 0 a0)).length ≤ 4294967296) then
      bif decide (([] ++ (List.take ((Int.toNat (IntKind.wrap .i64 (r12.1 + (1 : Int)))) - 0) (List.drop 0 a0))).length + r11.1.1.length ≤ 4294967296) then
       bif decide (0 ≤ r12.1) then
        bif decide ((Int.toNat r12.1) ≤ a0.length ∧ a0.length ≤ a0.length) then
         bif decide ((([] ++ (List.take ((Int.toNat (IntKind.wrap .i64 (r12.1 + (1 : Int)))) - 0) (List.drop 0 a0))) ++ r11.1.1).length + (List.take (a0.length - (Int.toNat r12.1)) (List.drop (Int.toNat r12.1) a0)).length ≤ 4294967296) then
          some (((([] ++ (List.take ((Int.toNat (IntKind.wrap .i64 (r12.1 + (1 : Int)))) - 0) (List.drop 0 a0))) ++ r11.1.1) ++ (List.take (a0.length - (Int.toNat r12.1)) (List.drop (Int.toNat r12.1) a0)), true), ())
         else none
        else none
       else none
      else none
     else none
    else none
   else none
  | .inr x10 =>
   some (x10, ()) := by kernel_rfl
/- spec.Link -/
def c_sLink : TC :=
 (.seq (.rg [o1 2 (.a (.t 0)),
   o1 3 (.a (.t 1)),
   ⟨false, [], [], .det 2 (.a (.c [.i .i64, .sl [.sl [.i .i64]]] [.int .i64 (0), .slice none 0 0])), [4, 1000000005], (some 4), none⟩,
   o1 5 (.lit [.b] [.bool false])])
 (.seq (.rg [o1 10 (.load 2 [] 0 .nil 2 false),
   o1 11 (.idx .nil),
   o1 12 (.load 3 [] 0 (.t 11) 1 false),
   o3 13 84 [.t 10, .t 12],
   o1 6 (.copy 13)])
 (.seq (.rg [o1 14 (.load 2 [] 0 .nil 2 false),
   o1 15 (.idx .nil),
   o1 16 (.load 3 [] 1 (.t 15) 1 false),
   o3 17 84 [.t 14, .t 16],
   o1 7 (.copy 17)])
 (.seq (.seq (.join [⟨35, [.b], false⟩] 68719214592 none (.rg [o1 18 (.idx .nil),
   o1 19 (.load 2 [] 0 (.t 18) 1 false),
   o1 20 (.load 3 [] 0 .nil 2 false),
   o3 21 63 [.t 19, .t 20],
   o1 22 (.data .not [.t 21]),
   o1 23 (.copy 22),
   o2 24 (.copy 6) 5 false,
   o2 25 (.data (.bin .lss) [.t 24, .c (.int .i64 (0))]) 5 false,
   ⟨false, [], [], .pick 23 (.c (.bool true)) (.t 25), [26], (some 26), none⟩,
   o1 27 (.copy 26),
   o2 28 (.copy 7) 9 false,
   o2 29 (.data (.bin .lss) [.t 28, .c (.int .i64 (0))]) 9 false,
   ⟨false, [], [], .pick 27 (.c (.bool true)) (.t 29), [30], (some 30), none⟩,
   o1 31 (.copy 30),
   o2 32 (.copy 6) 13 false,
   o2 33 (.copy 7) 13 false,
   o2 34 (.data (.bin .eql) [.t 32, .t 33]) 13 false,
   ⟨false, [], [], .pick 31 (.c (.bool true)) (.t 34), [35], (some 35), none⟩]))
 (.cond (.t 35)
  (.seq (.rg [o1 36 (.build [.i .i64, .sl [.sl [.i .i64]]] []),
    ⟨false, [36], [], .det 2 (.store 4 [] 0 .nil (.t 36)), [4, 36, 36], none, none⟩,
    o1 5 (.lit [.b] [.bool false])])
  .ret)
  .skip))
 (.seq (.rg [o1 40 (.copy 6),
   o1 47 (.copy 7),
   o1 38 (.idx .nil),
   o1 39 (.load 2 [] 1 (.t 38) 1 false),
   o1 41 (.index 39 (.t 40)),
   o1 42 (.load 39 [(0, 1)] 0 (.t 41) 1 false),
   o1 43 (.idx .nil),
   o1 44 (.load 3 [] 0 (.t 43) 1 false),
   o1 45 (.idx .nil),
   o1 46 (.load 2 [] 1 (.t 45) 1 false),
   o1 48 (.index 46 (.t 47)),
   o1 49 (.load 46 [(0, 1)] 0 (.t 48) 1 false),
   o1 50 (.idx .nil),
   o1 51 (.load 3 [] 1 (.t 50) 1 false),
   o3 52 87 [.t 42, .t 44, .t 49, .t 51],
   ⟨false, [], [], .det 2 (.copy 52), [37, 52], (some 37), none⟩,
   ⟨false, [], [], .det 2 (.ext 37 0 1), [53, 37], (some 53), none⟩,
   o1 54 (.ext 37 1 1),
   ⟨false, [], [], .det 2 (.copy 53), [8, 53], (some 8), none⟩,
   o1 9 (.copy 54)])
 (.seq (.rg [o1 55 (.load 2 [] 0 .nil 2 false),
   o1 56 (.copy 6),
   o1 57 (.copy 7),
   o1 58 (.sli [.i .i64] [.t 56, .t 57]),
   ⟨false, [8], [], .det 1 (.copy 8), [59, 8], (some 59), none⟩,
   o1 60 (.sli [.sl [.i .i64]] [.t 59]),
   ⟨false, [58, 60, 60], [], .call 1 86 [.t 55, .t 58, .t 60] .no, [61, 60, 60, 58], (some 61), none⟩,
   o4 2 [4, 61] (.store 4 [] 0 .nil (.t 61)),
   o1 5 (.lit [.b] [.bool true])])
 .ret))))))
def s_sLink : Sig := ⟨[.rd true [.d, .sl (.own none) [.sl (.own none) [.d]]], .rd true [.d, .d]], (.tup [(true, 2), (false, 1)] [.d, .sl (.own none) [.sl (.ro [0]) [.d]], .d])⟩
noncomputable def E_sLink : TEnv := envOf [(84, p_sTreeOf), (63, p_sEdgeOk), (87, p_sJoinTours), (86, p_sl07With)]
noncomputable def f_sLink (n : Nat) : (Int × List (List (Int))) × (Int × Int) → Option ((Int × List (List (Int)) × Bool) × Unit) := runFn n E_sLink c_sLink [[.i .i64, .sl [.sl [.i .i64]]], [.i .i64, .i .i64]] [.i .i64, .sl [.sl [.i .i64]], .b] [] [4, 5] .no
noncomputable def g_sLink := f_sLink BIG
noncomputable def p_sLink : TSp := ⟨s_sLink, [[.i .i64, .sl [.sl [.i .i64]]], [.i .i64, .i .i64]], [.i .i64, .sl [.sl [.i .i64]], .b], [], Ou.j .no, g_sLink⟩
theorem k_sLink : chkW PG E_sLink 71 s_sLink (c_sLink.ht 62) .no = some (c_sLink.wc E_sLink, [4, 5]) := by kernel_rfl
theorem ok_sLink : p_sLink.Ok PG 71 := mkOk (env_cons ok_sTreeOf (env_cons ok_sEdgeOk (env_cons ok_sJoinTours (env_cons ok_sl07With (env_nil PG))))) k_sLink (by kernel_rfl)
theorem e_sLink (n : Nat) (a0 : Int × List ((List (Int)))) (a1 : Int × Int) : f_sLink n (a0, a1) =
  Option.bind (g_sTreeOf (a0, a1.1)) fun r0 =>
  Option.bind (g_sTreeOf (a0, a1.2)) fun r1 =>
  Option.bind (Option.bind (g_sEdgeOk (a0.1, a1)) fun r2 =>
   bif !r2.1 then
    some true
   else bif decide (r0.1 < (0 : Int)) then
    some true
   else bif decide (r1.1 < (0 : Int)) then
    some true
   else some (decide (r0.1 = r1.1)) : Option (Bool)) fun x3 =>
  bif x3 then
   some (((0 : Int), [], false), ())
  else bnd a0.2.length r0.1 fun n4 =>
  Option.bind a0.2[n4]? fun y5 =>
  bnd a0.2.length r1.1 fun n6 =>
  Option.bind a0.2[n6]? fun y7 =>
  Option.bind (g_sJoinTours (y5, a1.1, y7, a1.2)) fun r8 =>
  Option.bind (g_sl07With (a0, [r0.1, r1.1], [r8.1.1])) fun r9 =>
  some ((r9.1.1, r9.1.2, true), ()) := by kernel_rfl
/- spec.l07Forest -/
def c_sl07Forest : TC :=
 (.seq (.rg [⟨false, [], [], .det 2 (.a (.c [.i .i64, .sl [.sl [.i .i64]]] [.int .i64 (0), .slice none 0 0])), [2, 1000000003], (some 2), none⟩])
 (.seq (.rg [o1 10 (.p0),
   ⟨false, [], [], .call 2 55 [.t 0, .c [.i .i64] [.int .i64 (11)]] (.mp 0), [11, 0], (some 11), none⟩,
   o1 12 (.data (.bin .add) [.c (.int .i64 (2)), .t 11]),
   o3 13 68 [.t 12],
   ⟨false, [], [], .det 2 (.copy 13), [9, 13], (some 9), none⟩,
   ⟨false, [], [], .det 2 (.ext 9 0 2), [14, 9], (some 14), none⟩,
   o1 15 (.ext 9 2 1),
   ⟨false, [], [], .det 2 (.a (.c [.i .i64, .sl [.sl [.i .i64]]] [.int .i64 (0), .slice none 0 0])), [3, 1000000004], (some 3), none⟩,
   ⟨false, [14, 14], [], .det 1 (.store 3 [] 0 .nil (.t 14)), [3, 14, 14], none, none⟩,
   o1 4 (.copy 15)])
 (.seq (.join [⟨0, [.sl [.i .u8], .i .i64, .i .i64], false⟩, ⟨3, [.i .i64, .sl [.sl [.i .i64]]], false⟩] 18014398509416937 none (.seq (.rg [o1 5 (.lit [.i .i64] [.int .i64 (0)])])
 (.block 0 (.loop [⟨0, [.sl [.i .u8], .i .i64, .i .i64], false⟩, ⟨3, [.i .i64, .sl [.sl [.i .i64]]], false⟩, ⟨5, [.i .i64], false⟩] 18014398509416937
  (.seq (.seq (.rg [o1 16 (.copy 5),
    o1 17 (.p0),
    ⟨false, [], [], .call 2 55 [.t 0, .c [.i .i64] [.int .i64 (16)]] (.mp 0), [18, 0], (some 18), none⟩,
    o1 19 (.data (.bin .lss) [.t 16, .t 18])])
  (.cond (.t 19)
   .skip
   (.exit 0)))
  (.seq (.join [⟨0, [.sl [.i .u8], .i .i64, .i .i64], false⟩, ⟨3, [.i .i64, .sl [.sl [.i .i64]]], false⟩] 18014398505288137 none (.block 1 (.seq (.rg [o1 22 (.load 3 [] 0 .nil 2 false),
    o3 23 69 [.t 22],
    ⟨false, [], [], .det 2 (.copy 23), [6, 23], (some 6), none⟩])
  (.seq (.seq (.join [⟨0, [.sl [.i .u8], .i .i64, .i .i64], false⟩, ⟨30, [.b], false⟩] 2130706433 none (.rg [⟨true, [], [], .det 1 (.copy 6), [24], (some 24), none⟩,
    o1 25 (.len 24),
    o1 26 (.data (.bin .gtr) [.t 25, .c (.int .i64 (0))]),
    o1 27 (.copy 26),
    o2 28 (.p0) 3 true,
    ⟨false, [], [], .call 2 26 [.t 0, .c [.i .i64] [.int .i64 (4)]] (.mp 0), [29, 0], (some 29), some (3, true)⟩,
    ⟨false, [], [], .pick 27 (.t 29) (.c (.bool false)), [30], (some 30), none⟩]))
  (.cond (.t 30)
   (.seq (.rg [⟨true, [], [], .det 1 (.copy 6), [33], (some 33), none⟩,
     o1 34 (.p0),
     ⟨true, [], [], .det 1 (.copy 6), [35], (some 35), none⟩,
     ⟨false, [], [0], .det 1 (.load 3 [] 0 .nil 2 false), [32], (some 32), none⟩,
     o1 36 (.len 35),
     ⟨false, [], [], .call 2 55 [.t 0, .t 36] (.mp 0), [37, 0], (some 37), none⟩,
     o1 38 (.index 33 (.t 37)),
     o1 39 (.load 6 [(0, 2)] 0 (.t 38) 2 false),
     o3 40 70 [.t 32, .t 39],
     ⟨false, [], [], .det 2 (.copy 40), [31, 40], (some 31), none⟩,
     ⟨false, [], [], .det 2 (.ext 31 0 2), [41, 31], (some 41), none⟩,
     o1 42 (.ext 31 2 1),
     ⟨false, [41, 41], [], .det 1 (.store 3 [] 0 .nil (.t 41)), [3, 41, 41], none, none⟩])
   (.exit 1))
   .skip))
  (.seq (.rg [o1 45 (.p0),
    ⟨false, [], [0, 1000000008], .det 1 (.load 3 [] 0 .nil 2 false), [44], (some 44), none⟩,
    ⟨false, [], [1000000008], .det 1 (.idx .nil), [46], (some 46), none⟩,
    ⟨false, [], [1000000008], .det 1 (.load 3 [] 0 (.t 46) 1 false), [47], (some 47), none⟩,
    ⟨false, [], [1000000008], .call 2 40 [.t 0, .t 47] (.mp 0), [48, 0], (some 48), none⟩,
    ⟨false, [], [1000000008], .call 1 71 [.t 44, .t 48] .no, [49], (some 49), none⟩,
    ⟨false, [], [1000000008], .det 2 (.copy 49), [43, 49], (some 43), none⟩,
    ⟨false, [], [1000000008], .det 2 (.ext 43 0 2), [50, 43], (some 50), none⟩,
    ⟨false, [], [1000000008], .det 1 (.ext 43 2 1), [51], (some 51), none⟩,
    ⟨false, [], [0], .det 2 (.a (.c [.i .i64, .sl [.sl [.i .i64]]] [.int .i64 (0), .slice none 0 0])), [7, 1000000008], (some 7), none⟩,
    o4 2 [7, 50] (.store 7 [] 0 .nil (.t 50)),
    o1 8 (.copy 51)])
  (.seq (.rg [o1 52 (.copy 8)])
  (.cond (.t 52)
   (.rg [⟨false, [], [3000007001], .det 1 (.load 7 [] 0 .nil 2 false), [53, 7], (some 53), none⟩,
     o4 1 [3] (.store 3 [] 0 .nil (.t 53))])
   .skip)))))))
  (.rg [o1 20 (.copy 5),
    o1 21 (.data (.bin .add) [.t 20, .c (.int .i64 (1))]),
    o1 5 (.copy 21)])))))))
 (.seq (.rg [o1 54 (.load 3 [] 0 .nil 2 false),
   o4 1 [2] (.store 2 [] 0 .nil (.t 54))])
 .ret))))
def s_sl07Forest : Sig := ⟨[.mp [.sl (.ro []) [.d], .d, .d]], (.one true [.d, .sl (.ro []) [.sl (.ro []) [.d]]])⟩
noncomputable def E_sl07Forest : TEnv := envOf [(55, p_sl01Below), (68, p_sForestNew), (69, p_sEdgesOf), (26, p_sl01Once), (70, p_sCut), (40, p_sl05Edge), (71, p_sLink)]
noncomputable def f_sl07Forest (n : Nat) : (List (Int) × Int × Int) → Option ((Int × List (List (Int))) × List (Int) × Int × Int) := runFn n E_sl07Forest c_sl07Forest [[.sl [.i .u8], .i .i64, .i .i64]] [.i .i64, .sl [.sl [.i .i64]]] [.sl [.i .u8], .i .i64, .i .i64] [2] (.mp 0)
noncomputable def g_sl07Forest := f_sl07Forest BIG
noncomputable def p_sl07Forest : TSp := ⟨s_sl07Forest, [[.sl [.i .u8], .i .i64, .i .i64]], [.i .i64, .sl [.sl [.i .i64]]], [.sl [.i .u8], .i .i64, .i .i64], Ou.j (.mp 0), g_sl07Forest⟩
theorem k_sl07Forest : chkW PG E_sl07Forest 39 s_sl07Forest (c_sl07Forest.ht 55) (.mp 0) = some (c_sl07Forest.wc E_sl07Forest, [2]) := by kernel_rfl
theorem ok_sl07Forest : p_sl07Forest.Ok PG 39 := mkOk (env_cons ok_sl01Below (env_cons ok_sForestNew (env_cons ok_sEdgesOf (env_cons ok_sl01Once (env_cons ok_sCut (env_cons ok_sl05Edge (env_cons ok_sLink (env_nil PG)))))))) k_sl07Forest (by kernel_rfl)
theorem e_sl07Forest (n : Nat) (a0 : List (Int) × Int × Int) : f_sl07Forest n a0 =
  Option.bind (g_sl01Below (a0, (11 : Int))) fun r0 =>
  Option.bind (g_sForestNew (IntKind.wrap .i64 ((2 : Int) + r0.1))) fun r1 =>
  Option.bind (loopT n (X := (List (Int) × Int × Int) × (Int × List ((List (Int)))) × Int) (B := (List (Int) × Int × Int) × (Int × List ((List (Int))))) (fun self3 x2 =>
    Option.bind (g_sl01Below (x2.1, (16 : Int))) fun r4 =>
    bif decide (x2.2.2 < r4.1) then
     Option.bind (Option.bind (g_sEdgesOf x2.2.1) fun r5 =>
      Option.bind (bif decide ((0 : Int) < (r5.1.length : Int)) then
        Option.bind (g_sl01Once (r4.2, (4 : Int))) fun r6 =>
        some (r6.2, r6.1)
       else some (r4.2, false) : Option ((List (Int) × Int × Int) × Bool)) fun x7 =>
      bif x7.2 then
       Option.bind (g_sl01Below (x7.1, (r5.1.length : Int))) fun r8 =>
       bnd r5.1.length r8.1 fun n9 =>
       Option.bind r5.1[n9]? fun y10 =>
       Option.bind (g_sCut (x2.2.1, y10)) fun r11 =>
       some (r8.2, (r11.1.1, r11.1.2.1))
      else Option.bind (g_sl05Edge (x7.1, x2.2.1.1)) fun r12 =>
      Option.bind (g_sLink (x2.2.1, r12.1)) fun r13 =>
      bif r13.1.2.2 then
       some (r12.2, (r13.1.1, r13.1.2.1))
      else some (r12.2, x2.2.1) : Option ((List (Int) × Int × Int) × (Int × List ((List (Int)))))) fun x14 =>
     self3 (x14.1, x14.2, IntKind.wrap .i64 (x2.2.2 + (1 : Int)))
    else some (r4.2, x2.2.1)) (r0.2, (r1.1.1, r1.1.2.1), (0 : Int)) : Option ((List (Int) × Int × Int) × (Int × List ((List (Int)))))) fun x15 =>
  some (x15.2, x15.1) := by kernel_rfl
/- spec.DrawRightForest -/
def c_sDrawRightForest : TC :=
 (.seq (.rg [⟨false, [], [], .det 2 (.a (.c [.i .i64, .sl [.sl [.i .i64]]] [.int .i64 (0), .slice none 0 0])), [2, 1000000003], (some 2), none⟩,
   ⟨false, [], [], .det 2 (.a (.c [.i .i64, .i .i64] [.int .i64 (0), .int .i64 (0)])), [3, 1000000004], (some 3), none⟩])
 (.seq (.rg [o1 6 (.copy 0),
   o3 7 22 [.t 6],
   o1 4 (.p0)])
 (.seq (.rg [o1 8 (.same 4),
   ⟨false, [], [], .call 2 39 [.t 7] (.mp 0), [9, 7], (some 9), none⟩,
   ⟨false, [], [], .det 2 (.a (.c [.i .i64, .sl [.sl [.i .i64]]] [.int .i64 (0), .slice none 0 0])), [5, 1000000006], (some 5), none⟩,
   o4 1 [5] (.store 5 [] 0 .nil (.t 9))])
 (.seq (.rg [o1 11 (.same 4),
   ⟨false, [], [7], .det 1 (.load 5 [] 0 .nil 2 false), [10], (some 10), none⟩,
   o1 12 (.idx .nil),
   o1 13 (.load 5 [] 0 (.t 12) 1 false),
   ⟨false, [], [], .call 2 40 [.t 7, .t 13] (.mp 0), [14, 7], (some 14), none⟩,
   o4 1 [2] (.store 2 [] 0 .nil (.t 10)),
   o4 1 [3] (.store 3 [] 0 .nil (.t 14))])
 .ret))))
def s_sDrawRightForest : Sig := ⟨[.rd false [.sl (.own none) [.d]]], (.tup [(true, 2), (true, 2)] [.d, .sl (.ro [0]) [.sl (.ro [0]) [.d]], .d, .d])⟩
noncomputable def E_sDrawRightForest : TEnv := envOf [(22, p_sl01New), (39, p_sl07Forest), (40, p_sl05Edge)]
noncomputable def f_sDrawRightForest (n : Nat) : List (Int) → Option ((Int × List (List (Int)) × Int × Int) × Unit) := runFn n E_sDrawRightForest c_sDrawRightForest [[.sl [.i .u8]]] [.i .i64, .sl [.sl [.i .i64]], .i .i64, .i .i64] [] [2, 3] .no
noncomputable def g_sDrawRightForest := f_sDrawRightForest BIG
noncomputable def p_sDrawRightForest : TSp := ⟨s_sDrawRightForest, [[.sl [.i .u8]]], [.i .i64, .sl [.sl [.i .i64]], .i .i64, .i .i64], [], Ou.j .no, g_sDrawRightForest⟩
theorem k_sDrawRightForest : chkW PG E_sDrawRightForest 11 s_sDrawRightForest (c_sDrawRightForest.ht 15) .no = some (c_sDrawRightForest.wc E_sDrawRightForest, [2, 3]) := by kernel_rfl
theorem ok_sDrawRightForest : p_sDrawRightForest.Ok PG 11 := mkOk (env_cons ok_sl01New (env_cons ok_sl07Forest (env_cons ok_sl05Edge (env_nil PG)))) k_sDrawRightForest (by kernel_rfl)
theorem e_sDrawRightForest (n : Nat) (a0 : List (Int)) : f_sDrawRightForest n a0 =
  Option.bind (g_sl01New a0) fun r0 =>
  Option.bind (g_sl07Forest r0.1) fun r1 =>
  Option.bind (g_sl05Edge (r1.2, r1.1.1)) fun r2 =>
  some ((r1.1.1, r1.1.2, r2.1), ()) := by kernel_rfl
/- impl.in -/
def c_iin : TC :=
 (.seq (.rg [o1 6 (.lit [.b] [.bool false])])
 (.seq (.join [⟨6, [.b], false⟩] 32704 none (.rg [o1 7 (.copy 0),
   o1 8 (.copy 1),
   o1 9 (.data (.bin .geq) [.t 7, .t 8]),
   o1 10 (.copy 9),
   o2 11 (.copy 0) 3 true,
   o2 12 (.copy 2) 3 true,
   o2 13 (.data (.bin .leq) [.t 11, .t 12]) 3 true,
   ⟨false, [], [], .pick 10 (.t 13) (.c (.bool false)), [14], (some 14), none⟩,
   o1 6 (.copy 14)]))
 .ret))
def s_iin : Sig := ⟨[.rd false [.d], .rd false [.d], .rd false [.d]], (.one false [.d])⟩
noncomputable def E_iin : TEnv := envOf []
noncomputable def f_iin (n : Nat) : Int × Int × Int → Option ((Bool) × Unit) := runFn n E_iin c_iin [[.i .i64], [.i .i64], [.i .i64]] [.b] [] [6] .no
noncomputable def g_iin := f_iin BIG
noncomputable def p_iin : TSp := ⟨s_iin, [[.i .i64], [.i .i64], [.i .i64]], [.b], [], Ou.j .no, g_iin⟩
theorem k_iin : chkW PG E_iin 28 s_iin (c_iin.ht 15) .no = some (c_iin.wc E_iin, [6]) := by kernel_rfl
theorem ok_iin : p_iin.Ok PG 28 := mkOk (env_nil PG) k_iin (by kernel_rfl)
theorem e_iin (n : Nat) (a0 : Int) (a1 : Int) (a2 : Int) : f_iin n (a0, a1, a2) =
  Option.bind (bif decide (a1 ≤ a0) then
    some (decide (a0 ≤ a2))
   else some false : Option (Bool)) fun x0 =>
  some (x0, ()) := by kernel_rfl
/- impl.hasInt -/
def c_ihasInt : TC :=
 (.seq (.rg [o1 4 (.lit [.b] [.bool false])])
 (.seq (.join [] 131024 (some [⟨4, [.b], false⟩]) (.seq (.rg [o1 7 (.copy 0),
   o1 8 (.len 7),
   o1 9 (.lit [.i .i64] [.int .i64 (0)])])
 (.block 0 (.loop [⟨9, [.i .i64], false⟩] 130640
  (.seq (.rg [o1 10 (.data (.bin .lss) [.t 9, .t 8])])
  (.seq (.cond (.t 10)
   .skip
   (.exit 0))
  (.seq (.block 1 (.seq (.rg [o1 11 (.index 7 (.t 9)),
    o1 12 (.load 7 [(0, 1)] 0 (.t 11) 1 false),
    o1 6 (.copy 12)])
  (.seq (.rg [o1 13 (.copy 6),
    o1 14 (.copy 1),
    o1 15 (.data (.bin .eql) [.t 13, .t 14])])
  (.cond (.t 15)
   (.seq (.rg [o1 4 (.lit [.b] [.bool true])])
   .ret)
   .skip))))
  (.rg [o1 16 (.data (.bin .add) [.t 9, .c (.int .i64 (1))]),
    o1 9 (.copy 16)]))))))))
 (.seq (.rg [o1 4 (.lit [.b] [.bool false])])
 .ret)))
def s_ihasInt : Sig := ⟨[.rd false [.sl (.own none) [.d]], .rd false [.d]], (.one false [.d])⟩
noncomputable def E_ihasInt : TEnv := envOf []
noncomputable def f_ihasInt (n : Nat) : List (Int) × Int → Option ((Bool) × Unit) := runFn n E_ihasInt c_ihasInt [[.sl [.i .i64]], [.i .i64]] [.b] [] [4] .no
noncomputable def g_ihasInt := f_ihasInt BIG
noncomputable def p_ihasInt : TSp := ⟨s_ihasInt, [[.sl [.i .i64]], [.i .i64]], [.b], [], Ou.j .no, g_ihasInt⟩
theorem k_ihasInt : chkW PG E_ihasInt 41 s_ihasInt (c_ihasInt.ht 17) .no = some (c_ihasInt.wc E_ihasInt, [4]) := by kernel_rfl
theorem ok_ihasInt : p_ihasInt.Ok PG 41 := mkOk (env_nil PG) k_ihasInt (by kernel_rfl)
theorem e_ihasInt (n : Nat) (a0 : List (Int)) (a1 : Int) : f_ihasInt n (a0, a1) =
  Option.bind (loopT n (X := Int) (B := (Unit) ⊕ (Bool)) (fun self1 x0 =>
    bif decide (x0 < (a0.length : Int)) then
     bnd a0.length x0 fun n2 =>
     Option.bind a0[n2]? fun y3 =>
     bif decide (y3 = a1) then
      some (Sum.inr true)
     else self1 (IntKind.wrap .i64 (x0 + (1 : Int)))
    else some (Sum.inl ())) (0 : Int) : Option ((Unit) ⊕ (Bool))) fun y => match y with
  | .inl x4 =>
   some (false, ())
  | .inr x4 =>
   some (x4, ()) := by kernel_rfl
/- impl.TourOk -/
def c_iTourOk : TC :=
 (.seq (.rg [o1 2 (.lit [.b] [.bool false])])
 (.seq (.seq (.join [⟨18, [.b], false⟩] 524032 none (.rg [o1 8 (.copy 0),
   o1 9 (.len 8),
   o3 10 28 [.t 9, .c [.i .i64] [.int .i64 (1)], .c [.i .i64] [.int .i64 (23)]],
   o1 11 (.data .not [.t 10]),
   o1 12 (.copy 11),
   o2 13 (.copy 0) 4 false,
   o2 14 (.index 13 (.c (.int .i64 (0)))) 4 false,
   o2 15 (.load 13 [(0, 1)] 0 (.t 14) 1 false) 4 false,
   ⟨false, [], [], .call 1 28 [.t 15, .c [.i .i64] [.int .i64 (0)], .c [.i .i64] [.int .i64 (11)]] .no, [16], (some 16), some (4, false)⟩,
   o2 17 (.data .not [.t 16]) 4 false,
   ⟨false, [], [], .pick 12 (.c (.bool true)) (.t 17), [18], (some 18), none⟩]))
 (.cond (.t 18)
  (.seq (.rg [o1 2 (.lit [.b] [.bool false])])
  .ret)
  .skip))
 (.seq (.rg [o1 19 (.copy 0),
   o1 20 (.index 19 (.c (.int .i64 (0)))),
   o1 21 (.load 19 [(0, 1)] 0 (.t 20) 1 false),
   o1 22 (.sli [.i .i64] [.t 21]),
   ⟨false, [], [], .det 2 (.copy 22), [3, 22], (some 3), none⟩])
 (.seq (.rg [o1 23 (.copy 0),
   o1 24 (.index 23 (.c (.int .i64 (0)))),
   o1 25 (.load 23 [(0, 1)] 0 (.t 24) 1 false),
   o1 26 (.sli [.i .i64] [.t 25]),
   ⟨false, [], [], .det 2 (.copy 26), [4, 26], (some 4), none⟩])
 (.seq (.join [⟨3, [.sl [.i .i64]], false⟩] 1180591620717277085916 (some [⟨2, [.b], false⟩]) (.seq (.rg [o1 27 (.copy 0),
   o1 28 (.res 27 (some (.c (.int .i64 (1)))) none),
   o1 29 (.len 28),
   o1 30 (.lit [.i .i64] [.int .i64 (0)])])
 (.block 0 (.loop [⟨3, [.sl [.i .i64]], false⟩, ⟨4, [.sl [.i .i64]], false⟩, ⟨30, [.i .i64], false⟩] 1180591620716337561820
  (.seq (.rg [o1 31 (.data (.bin .lss) [.t 30, .t 29])])
  (.seq (.cond (.t 31)
   .skip
   (.exit 0))
  (.seq (.join [⟨3, [.sl [.i .i64]], false⟩, ⟨4, [.sl [.i .i64]], false⟩] 590295810354410684636 (some [⟨2, [.b], false⟩]) (.block 1 (.seq (.rg [o1 32 (.index 28 (.t 30)),
    o1 33 (.load 28 [(0, 1)] 0 (.t 32) 1 false),
    o1 6 (.copy 33)])
  (.seq (.rg [⟨true, [], [], .det 1 (.copy 3), [34], (some 34), none⟩,
    o1 35 (.len 34),
    o1 7 (.copy 35)])
  (.block 2 (.seq (.join [⟨36, [.b], false⟩] 281406257233920 none (.rg [o1 37 (.copy 7),
    o1 38 (.data (.bin .gtr) [.t 37, .c (.int .i64 (1))]),
    o1 39 (.copy 38),
    ⟨true, [], [], .det 1 (.copy 3), [40], (some 40), some (2, true)⟩,
    o2 41 (.copy 7) 2 true,
    o2 42 (.data (.bin .sub) [.t 41, .c (.int .i64 (2))]) 2 true,
    o2 43 (.index 40 (.t 42)) 2 true,
    o2 44 (.load 3 [(0, 1)] 0 (.t 43) 1 false) 2 true,
    o2 45 (.copy 6) 2 true,
    o2 46 (.data (.bin .eql) [.t 44, .t 45]) 2 true,
    ⟨false, [], [], .pick 39 (.t 46) (.c (.bool false)), [47], (some 47), none⟩,
    o1 36 (.copy 47)]))
  (.cond (.t 36)
   (.rg [⟨false, [], [], .det 2 (.copy 3), [48, 3, 34], (some 48), none⟩,
     o1 49 (.copy 7),
     o1 50 (.data (.bin .sub) [.t 49, .c (.int .i64 (1))]),
     ⟨true, [], [], .det 2 (.res 48 none (some (.t 50))), [51, 48], (some 51), none⟩,
     ⟨false, [], [], .det 2 (.copy 51), [3, 51, 34], (some 3), none⟩])
   (.seq (.join [⟨52, [.b], false⟩] 2301339409586323456 none (.rg [o1 53 (.copy 6),
     o3 54 28 [.t 53, .c [.i .i64] [.int .i64 (0)], .c [.i .i64] [.int .i64 (11)]],
     o1 55 (.copy 54),
     ⟨true, [], [], .det 1 (.copy 4), [56], (some 56), some (2, true)⟩,
     o2 57 (.copy 6) 2 true,
     ⟨false, [], [], .call 1 41 [.t 56, .t 57] .no, [58], (some 58), some (2, true)⟩,
     o2 59 (.data .not [.t 58]) 2 true,
     ⟨false, [], [], .pick 55 (.t 59) (.c (.bool false)), [60], (some 60), none⟩,
     o1 52 (.copy 60)]))
   (.cond (.t 52)
    (.rg [⟨false, [], [], .det 2 (.copy 3), [61, 3, 34], (some 61), none⟩,
      o1 62 (.copy 6),
      o1 63 (.sli [.i .i64] [.t 62]),
      ⟨false, [], [], .det 2 (.app (some 61) 63), [64, 61], (some 64), none⟩,
      ⟨false, [], [], .det 2 (.copy 4), [65, 4], (some 65), none⟩,
      o1 66 (.copy 6),
      o1 67 (.sli [.i .i64] [.t 66]),
      ⟨false, [], [], .det 2 (.app (some 65) 67), [68, 65], (some 68), none⟩,
      ⟨false, [], [], .det 2 (.copy 64), [3, 64, 34], (some 3), none⟩,
      ⟨false, [], [], .det 2 (.copy 68), [4, 68], (some 4), none⟩])
    (.seq (.rg [o1 2 (.lit [.b] [.bool false])])
    .ret))))))))))
  (.rg [o1 69 (.data (.bin .add) [.t 30, .c (.int .i64 (1))]),
    o1 30 (.copy 69)]))))))))
 (.seq (.rg [⟨false, [], [], .det 2 (.copy 3), [70, 3], (some 70), none⟩,
   o1 71 (.len 70),
   o1 72 (.data (.bin .eql) [.t 71, .c (.int .i64 (1))]),
   o1 2 (.copy 72)])
 .ret))))))
def s_iTourOk : Sig := ⟨[.rd false [.sl (.own none) [.d]]], (.one false [.d])⟩
noncomputable def E_iTourOk : TEnv := envOf [(28, p_iin), (41, p_ihasInt)]
noncomputable def f_iTourOk (n : Nat) : List (Int) → Option ((Bool) × Unit) := runFn n E_iTourOk c_iTourOk [[.sl [.i .i64]]] [.b] [] [2] .no
noncomputable def g_iTourOk := f_iTourOk BIG
noncomputable def p_iTourOk : TSp := ⟨s_iTourOk, [[.sl [.i .i64]]], [.b], [], Ou.j .no, g_iTourOk⟩
theorem k_iTourOk : chkW PG E_iTourOk 46 s_iTourOk (c_iTourOk.ht 73) .no = some (c_iTourOk.wc E_iTourOk, [2]) := by kernel_rfl
theorem ok_iTourOk : p_iTourOk.Ok PG 46 := mkOk (env_cons ok_iin (env_cons ok_ihasInt (env_nil PG))) k_iTourOk (by kernel_rfl)
theorem e_iTourOk (n : Nat) (a0 : List (Int)) : f_iTourOk n a0 =
  Option.bind (Option.bind (g_iin ((a0.length : Int), (1 : Int), (23 : Int))) fun r0 =>
   bif !r0.1 then
    some true
   else bnd a0.length (0 : Int) fun n1 =>
   Option.bind a0[n1]? fun y2 =>
   Option.bind (g_iin (y2, (0 : Int), (11 : Int))) fun r3 =>
   some !r3.1 : Option (Bool)) fun x4 =>
  bif x4 then
   some (false, ())
  else bnd a0.length (0 : Int) fun n5 =>
  Option.bind a0[n5]? fun y6 =>
  bnd a0.length (0 : Int) fun n7 =>
  Option.bind a0[n7]? fun y8 =>
  Option.bind (bif decide (0 ≤ (1 : Int)) then
    bif decide ((Int.toNat (1 : Int)) ≤ a0.length ∧ a0.length ≤ a0.length) then
     loopT n (X := (List (Int)) × (List (Int)) × Int) (B := ((List (Int))) ⊕ (Bool)) (fun self10 x9 =>
      bif decide (x9.2.2 < ((List.take (a0.length - (Int.toNat (1 : Int))) (List.drop (Int.toNat (1 : Int)) a0)).length : Int)) then
       Option.bind (bnd (List.take (a0.length - (Int.toNat (1 : Int))) (List.drop (Int.toNat (1 : Int)) a0)).length x9.2.2 fun n11 =>
        Option.bind (List.take (a0.length - (Int.toNat (1 : Int))) (List.drop (Int.toNat (1 : Int)) a0))[n11]? fun y12 =>
        Option.bind (bif decide ((1 : Int) < (x9.1.length : Int)) then
          bnd x9.1.length (IntKind.wrap .i64 ((x9.1.length : Int) - (2 : Int))) fun n13 =>
          Option.bind x9.1[n13]? fun y14 =>
          some (decide (y14 = y12))
         else some false : Option (Bool)) fun x15 =>
        bif x15 then
         bif decide (0 ≤ (IntKind.wrap .i64 ((x9.1.length : Int) - (1 : Int)))) then
          bif decide (0 ≤ (Int.toNat (IntKind.wrap .i64 ((x9.1.length : Int) - (1 : Int)))) ∧ (Int.toNat (IntKind.wrap .i64 ((x9.1.length : Int) - (1 : Int)))) ≤ x9.1.length) then
           some (Sum.inl (List.take ((Int.toNat (IntKind.wrap .i64 ((x9.1.length : Int) - (1 : Int)))) - 0) (List.drop 0 x9.1), x9.2.1))
          else none
         else none
        else Option.bind (Option.bind (g_iin (y12, (0 : Int), (11 : Int))) fun r16 =>
         bif r16.1 then
          Option.bind (g_ihasInt (x9.2.1, y12)) fun r17 =>
          some !r17.1
         else some false : Option (Bool)) fun x18 =>
        bif x18 then
         bif decide (x9.1.length + [y12].length ≤ 4294967296) then
          bif decide (x9.2.1.length + [y12].length ≤ 4294967296) then
           some (Sum.inl (x9.1 ++ [y12], x9.2.1 ++ [y12]))
          else none
         else none
        else some (Sum.inr false) : Option (((List (Int)) × (List (Int))) ⊕ (Bool))) fun y => match y with
       | .inl x19 =>
        self10 (x19.1, x19.2, IntKind.wrap .i64 (x9.2.2 + (1 : Int)))
       | .inr x19 =>
        some (Sum.inr x19)
      else some (Sum.inl x9.1)) ([y6], [y8], (0 : Int))
    else none
   else none : Option (((List (Int))) ⊕ (Bool))) fun y => match y with
  | .inl x20 =>
   some (decide ((x20.length : Int) = (1 : Int)), ())
  | .inr x20 =>
   some (x20, ()) := by kernel_rfl
/- impl.copyInts -/
def c_icopyInts : TC :=
 (.seq (.rg [o1 2 (.lit [.sl [.i .i64]] [.slice none 0 0])])
 (.seq (.rg [o1 3 (.copy 0),
   o1 4 (.app none 3),
   ⟨false, [], [], .det 2 (.copy 4), [2, 4], (some 2), none⟩])
 .ret))
def s_icopyInts : Sig := ⟨[.rd false [.sl (.own none) [.d]]], (.one false [.sl (.own none) [.d]])⟩
noncomputable def E_icopyInts : TEnv := envOf []
noncomputable def f_icopyInts (n : Nat) : List (Int) → Option ((List (Int)) × Unit) := runFn n E_icopyInts c_icopyInts [[.sl [.i .i64]]] [.sl [.i .i64]] [] [2] .no
noncomputable def g_icopyInts := f_icopyInts BIG
noncomputable def p_icopyInts : TSp := ⟨s_icopyInts, [[.sl [.i .i64]]], [.sl [.i .i64]], [], Ou.j .no, g_icopyInts⟩
theorem k_icopyInts : chkW PG E_icopyInts 74 s_icopyInts (c_icopyInts.ht 5) .no = some (c_icopyInts.wc E_icopyInts, [2]) := by kernel_rfl
theorem ok_icopyInts : p_icopyInts.Ok PG 74 := mkOk (env_nil PG) k_icopyInts (by kernel_rfl)
theorem e_icopyInts (n : Nat) (a0 : List (Int)) : f_icopyInts n a0 =
  bif decide (a0.length ≤ 4294967296) then
   some (a0, ())
  else none := by kernel_rfl
/- impl.with -/
def c_iwith : TC :=
 (.seq (.rg [o1 4 (.lit [.sl [.i .i64]] [.slice none 0 0])])
 (.seq (.rg [o1 5 (.lit [.i .i64] [.int .i64 (0)])])
 (.seq (.join [⟨5, [.i .i64], false⟩] 1048544 none (.block 0 (.loop [⟨5, [.i .i64], false⟩] 1048544
  (.seq (.seq (.join [⟨17, [.b], false⟩] 262080 none (.rg [o1 6 (.copy 5),
    ⟨true, [], [], .det 1 (.copy 0), [7], (some 7), none⟩,
    o1 8 (.len 7),
    o1 9 (.data (.bin .lss) [.t 6, .t 8]),
    o1 10 (.copy 9),
    ⟨true, [], [], .det 1 (.copy 0), [11], (some 11), some (4, true)⟩,
    o2 12 (.copy 5) 4 true,
    o2 13 (.index 11 (.t 12)) 4 true,
    o2 14 (.load 0 [(0, 1)] 0 (.t 13) 1 false) 4 true,
    o2 15 (.copy 1) 4 true,
    o2 16 (.data (.bin .lss) [.t 14, .t 15]) 4 true,
    ⟨false, [], [], .pick 10 (.t 16) (.c (.bool false)), [17], (some 17), none⟩]))
  (.cond (.t 17)
   .skip
   (.exit 0)))
  (.block 1 (.rg [o1 18 (.copy 5),
    o1 19 (.data (.bin .add) [.t 18, .c (.int .i64 (1))]),
    o1 5 (.copy 19)]))))))
 (.seq (.seq (.join [⟨31, [.b], false⟩] 4293918720 none (.rg [o1 20 (.copy 5),
   ⟨true, [], [], .det 1 (.copy 0), [21], (some 21), none⟩,
   o1 22 (.len 21),
   o1 23 (.data (.bin .lss) [.t 20, .t 22]),
   o1 24 (.copy 23),
   ⟨true, [], [], .det 1 (.copy 0), [25], (some 25), some (4, true)⟩,
   o2 26 (.copy 5) 4 true,
   o2 27 (.index 25 (.t 26)) 4 true,
   o2 28 (.load 0 [(0, 1)] 0 (.t 27) 1 false) 4 true,
   o2 29 (.copy 1) 4 true,
   o2 30 (.data (.bin .eql) [.t 28, .t 29]) 4 true,
   ⟨false, [], [], .pick 24 (.t 30) (.c (.bool false)), [31], (some 31), none⟩]))
 (.cond (.t 31)
  (.seq (.rg [⟨false, [], [], .det 2 (.copy 0), [32, 0, 7, 21], (some 32), none⟩,
    ⟨false, [], [], .det 2 (.copy 32), [4, 32], (some 4), none⟩])
  .ret)
  .skip))
 (.seq (.rg [⟨true, [], [], .det 1 (.copy 0), [33], (some 33), none⟩,
   o1 34 (.copy 5),
   o1 37 (.copy 1),
   ⟨true, [], [], .det 1 (.copy 0), [40], (some 40), none⟩,
   o1 41 (.copy 5),
   o1 35 (.res 33 none (some (.t 34))),
   o3 36 74 [.t 35],
   o1 38 (.sli [.i .i64] [.t 37]),
   ⟨false, [], [], .det 2 (.app (some 36) 38), [39, 36], (some 39), none⟩,
   o1 42 (.res 40 (some (.t 41)) none),
   ⟨false, [], [], .det 2 (.app (some 39) 42), [43, 39], (some 43), none⟩,
   ⟨false, [], [], .det 2 (.copy 43), [4, 43], (some 4), none⟩])
 .ret)))))
def s_iwith : Sig := ⟨[.tk false [.sl (.own none) [.d]], .rd false [.d]], (.one false [.sl (.own none) [.d]])⟩
noncomputable def E_iwith : TEnv := envOf [(74, p_icopyInts)]
noncomputable def f_iwith (n : Nat) : List (Int) × Int → Option ((List (Int)) × Unit) := runFn n E_iwith c_iwith [[.sl [.i .i64]], [.i .i64]] [.sl [.i .i64]] [] [4] .no
noncomputable def g_iwith := f_iwith BIG
noncomputable def p_iwith : TSp := ⟨s_iwith, [[.sl [.i .i64]], [.i .i64]], [.sl [.i .i64]], [], Ou.j .no, g_iwith⟩
theorem k_iwith : chkW PG E_iwith 75 s_iwith (c_iwith.ht 44) .no = some (c_iwith.wc E_iwith, [4]) := by kernel_rfl
theorem ok_iwith : p_iwith.Ok PG 75 := mkOk (env_cons ok_icopyInts (env_nil PG)) k_iwith (by kernel_rfl)
theorem e_iwith (n : Nat) (a0 : List (Int)) (a1 : Int) : f_iwith n (a0, a1) =
  Option.bind (loopT n (X := Int) (B := Int) (fun self1 x0 =>
    Option.bind (bif decide (x0 < (a0.length : Int)) then
      bnd a0.length x0 fun n2 =>
      Option.bind a0[n2]? fun y3 =>
      some (decide (y3 < a1))
     else some false : Option (Bool)) fun x4 =>
    bif x4 then
     self1 (IntKind.wrap .i64 (x0 + (1 : Int)))
    else some x0) (0 : Int) : Option (Int)) fun x5 =>
  Option.bind (bif decide (x5 < (a0.length : Int)) then
    bnd a0.length x5 fun n6 =>
    Option.bind a0[n6]? fun y7 =>
    some (decide (y7 = a1))
   else some false : Option (Bool)) fun x8 =>
  bif x8 then
   some (a0, ())
  else bif decide (0 ≤ x5) then
   bif decide (0 ≤ (Int.toNat x5) ∧ (Int.toNat x5) ≤ a0.length) then
    Option.bind (g_icopyInts (List.take ((Int.toNat x5) - 0) (List.drop 0 a0))) fun r9 =>
    bif decide (r9.1.length + [a1].length ≤ 4294967296) then
     bif decide (0 ≤ x5) then
      bif decide ((Int.toNat x5) ≤ a0.length ∧ a0.length ≤ a0.length) then
       bif decide ((r9.1 ++ [a1]).length + (List.take (a0.length - (Int.toNat x5)) (List.drop (Int.toNat x5) a0)).length ≤ 4294967296) then
        some ((r9.1 ++ [a1]) ++ (List.take (a0.length - (Int.toNat x5)) (List.drop (Int.toNat x5) a0)), ())
       else none
      else none
     else none
    else none
   else none
  else none := by kernel_rfl
/- impl.VertsOf -/
def c_iVertsOf : TC :=
 (.seq (.rg [o1 2 (.lit [.sl [.i .i64]] [.slice none 0 0])])
 (.seq (.rg [o1 3 (.lit [.sl [.i .i64]] [.slice none 0 0])])
 (.seq (.join [⟨3, [.sl [.i .i64]], false⟩] 65512 none (.seq (.rg [o1 6 (.copy 0),
   o1 7 (.len 6),
   o1 8 (.lit [.i .i64] [.int .i64 (0)])])
 (.block 0 (.loop [⟨3, [.sl [.i .i64]], false⟩, ⟨8, [.i .i64], false⟩] 65320
  (.seq (.rg [o1 9 (.data (.bin .lss) [.t 8, .t 7])])
  (.seq (.cond (.t 9)
   .skip
   (.exit 0))
  (.seq (.block 1 (.seq (.rg [o1 10 (.index 6 (.t 8)),
    o1 11 (.load 6 [(0, 1)] 0 (.t 10) 1 false),
    o1 5 (.copy 11)])
  (.rg [⟨false, [], [], .det 2 (.copy 3), [12, 3], (some 12), none⟩,
    o1 13 (.copy 5),
    ⟨false, [], [], .call 2 75 [.t 12, .t 13] .no, [14, 12], (some 14), none⟩,
    ⟨false, [], [], .det 2 (.copy 14), [3, 14], (some 3), none⟩])))
  (.rg [o1 15 (.data (.bin .add) [.t 8, .c (.int .i64 (1))]),
    o1 8 (.copy 15)]))))))))
 (.seq (.rg [⟨false, [], [], .det 2 (.copy 3), [16, 3], (some 16), none⟩,
   ⟨false, [], [], .det 2 (.copy 16), [2, 16], (some 2), none⟩])
 .ret))))
def s_iVertsOf : Sig := ⟨[.rd false [.sl (.own none) [.d]]], (.one false [.sl (.own none) [.d]])⟩
noncomputable def E_iVertsOf : TEnv := envOf [(75, p_iwith)]
noncomputable def f_iVertsOf (n : Nat) : List (Int) → Option ((List (Int)) × Unit) := runFn n E_iVertsOf c_iVertsOf [[.sl [.i .i64]]] [.sl [.i .i64]] [] [2] .no
noncomputable def g_iVertsOf := f_iVertsOf BIG
noncomputable def p_iVertsOf : TSp := ⟨s_iVertsOf, [[.sl [.i .i64]]], [.sl [.i .i64]], [], Ou.j .no, g_iVertsOf⟩
theorem k_iVertsOf : chkW PG E_iVertsOf 47 s_iVertsOf (c_iVertsOf.ht 17) .no = some (c_iVertsOf.wc E_iVertsOf, [2]) := by kernel_rfl
theorem ok_iVertsOf : p_iVertsOf.Ok PG 47 := mkOk (env_cons ok_iwith (env_nil PG)) k_iVertsOf (by kernel_rfl)
theorem e_iVertsOf (n : Nat) (a0 : List (Int)) : f_iVertsOf n a0 =
  Option.bind (loopT n (X := (List (Int)) × Int) (B := (List (Int))) (fun self1 x0 =>
    bif decide (x0.2 < (a0.length : Int)) then
     bnd a0.length x0.2 fun n2 =>
     Option.bind a0[n2]? fun y3 =>
     Option.bind (g_iwith (x0.1, y3)) fun r4 =>
     self1 (r4.1, IntKind.wrap .i64 (x0.2 + (1 : Int)))
    else some x0.1) ([], (0 : Int)) : Option ((List (Int)))) fun x5 =>
  some (x5, ()) := by kernel_rfl
/- impl.ForestOk -/
def c_iForestOk : TC :=
 (.seq (.rg [o1 1 (.a (.t 0)),
   o1 2 (.lit [.b] [.bool false])])
 (.seq (.seq (.rg [o1 9 (.idx .nil),
   o1 10 (.load 1 [] 0 (.t 9) 1 false),
   o3 11 28 [.t 10, .c [.i .i64] [.int .i64 (1)], .c [.i .i64] [.int .i64 (12)]],
   o1 12 (.data .not [.t 11])])
 (.cond (.t 12)
  (.seq (.rg [o1 2 (.lit [.b] [.bool false])])
  .ret)
  .skip))
 (.seq (.rg [o1 3 (.lit [.sl [.i .i64]] [.slice none 0 0])])
 (.seq (.join [⟨3, [.sl [.i .i64]], false⟩] 9223372036854767996 (some [⟨2, [.b], false⟩]) (.seq (.rg [o1 13 (.idx .nil),
   o1 14 (.load 1 [] 1 (.t 13) 1 false),
   o1 15 (.len 14),
   o1 16 (.lit [.i .i64] [.int .i64 (0)])])
 (.block 0 (.loop [⟨3, [.sl [.i .i64]], false⟩, ⟨16, [.i .i64], false⟩] 9223372036854710652
  (.seq (.rg [o1 17 (.data (.bin .lss) [.t 16, .t 15])])
  (.seq (.cond (.t 17)
   .skip
   (.exit 0))
  (.seq (.join [⟨3, [.sl [.i .i64]], false⟩] 4611686018427126140 (some [⟨2, [.b], false⟩]) (.block 1 (.seq (.rg [o1 18 (.copy 16),
    o1 19 (.index 14 (.t 16)),
    o1 20 (.load 14 [(0, 1)] 0 (.t 19) 1 false),
    o1 4 (.copy 18),
    o1 5 (.copy 20)])
  (.seq (.seq (.rg [o1 21 (.copy 5),
    o3 22 46 [.t 21],
    o1 23 (.data .not [.t 22])])
  (.cond (.t 23)
   (.seq (.rg [o1 2 (.lit [.b] [.bool false])])
   .ret)
   .skip))
  (.seq (.rg [o1 24 (.copy 5),
    o3 25 47 [.t 24],
    ⟨false, [], [], .det 2 (.copy 25), [6, 25], (some 6), none⟩])
  (.seq (.join [] 4397979402500 (some [⟨2, [.b], false⟩]) (.seq (.rg [⟨true, [], [], .det 1 (.copy 6), [26], (some 26), none⟩,
    o1 27 (.len 26),
    o1 28 (.lit [.i .i64] [.int .i64 (0)])])
  (.block 2 (.loop [⟨28, [.i .i64], false⟩] 4397778075908
   (.seq (.rg [o1 29 (.data (.bin .lss) [.t 28, .t 27])])
   (.seq (.cond (.t 29)
    .skip
    (.exit 2))
   (.seq (.join [] 2197949513988 (some [⟨2, [.b], false⟩]) (.block 3 (.seq (.rg [o1 30 (.index 26 (.t 28)),
     o1 31 (.load 6 [(0, 1)] 0 (.t 30) 1 false),
     o1 8 (.copy 31)])
   (.seq (.join [⟨40, [.b], false⟩] 2194728288256 none (.rg [o1 32 (.copy 8),
     o1 33 (.idx .nil),
     o1 34 (.load 1 [] 0 (.t 33) 1 false),
     o1 35 (.data (.bin .geq) [.t 32, .t 34]),
     o1 36 (.copy 35),
     ⟨true, [], [], .det 1 (.copy 3), [37], (some 37), some (4, false)⟩,
     o2 38 (.copy 8) 4 false,
     ⟨false, [], [], .call 1 41 [.t 37, .t 38] .no, [39], (some 39), some (4, false)⟩,
     ⟨false, [], [], .pick 36 (.c (.bool true)) (.t 39), [40], (some 40), none⟩]))
   (.cond (.t 40)
    (.seq (.rg [o1 2 (.lit [.b] [.bool false])])
    .ret)
    .skip)))))
   (.rg [o1 41 (.data (.bin .add) [.t 28, .c (.int .i64 (1))]),
     o1 28 (.copy 41)]))))))))
  (.seq (.rg [⟨false, [], [], .det 2 (.copy 3), [42, 3], (some 42), none⟩,
    ⟨true, [], [], .det 1 (.copy 6), [43], (some 43), none⟩,
    ⟨false, [], [], .det 2 (.app (some 42) 43), [44, 42], (some 44), none⟩,
    ⟨false, [], [], .det 2 (.copy 44), [3, 44], (some 3), none⟩])
  (.seq (.join [⟨61, [.b], false⟩] 4611659630215430208 none (.rg [o1 45 (.copy 4),
    o1 46 (.data (.bin .gtr) [.t 45, .c (.int .i64 (0))]),
    o1 47 (.copy 46),
    ⟨false, [], [6, 26, 43], .det 1 (.idx .nil), [48], (some 48), some (2, true)⟩,
    ⟨false, [], [6, 26, 43], .det 1 (.load 1 [] 1 (.t 48) 1 false), [49], (some 49), some (2, true)⟩,
    ⟨false, [], [6, 26, 43], .det 1 (.copy 4), [50], (some 50), some (2, true)⟩,
    ⟨false, [], [6, 26, 43], .det 1 (.data (.bin .sub) [.t 50, .c (.int .i64 (1))]), [51], (some 51), some (2, true)⟩,
    ⟨false, [], [6, 26, 43], .det 1 (.index 49 (.t 51)), [52], (some 52), some (2, true)⟩,
    ⟨false, [], [6, 26, 43], .det 1 (.load 49 [(0, 1)] 0 (.t 52) 1 false), [53], (some 53), some (2, true)⟩,
    ⟨false, [], [6, 26, 43], .call 1 47 [.t 53] .no, [54], (some 54), some (2, true)⟩,
    ⟨false, [], [6, 26, 43], .det 1 (.index 54 (.c (.int .i64 (0)))), [55], (some 55), some (2, true)⟩,
    ⟨false, [], [6, 26, 43], .det 1 (.load 54 [(0, 1)] 0 (.t 55) 1 false), [56], (some 56), some (2, true)⟩,
    ⟨false, [], [], .det 2 (.copy 6), [57, 6, 26, 43], (some 57), some (2, true)⟩,
    o2 58 (.index 57 (.c (.int .i64 (0)))) 2 true,
    o2 59 (.load 57 [(0, 1)] 0 (.t 58) 1 false) 2 true,
    o2 60 (.data (.bin .geq) [.t 56, .t 59]) 2 true,
    ⟨false, [], [], .pick 47 (.t 60) (.c (.bool false)), [61], (some 61), none⟩]))
  (.cond (.t 61)
   (.seq (.rg [o1 2 (.lit [.b] [.bool false])])
   .ret)
   .skip)))))))))
  (.rg [o1 62 (.data (.bin .add) [.t 16, .c (.int .i64 (1))]),
    o1 16 (.copy 62)]))))))))
 (.seq (.rg [⟨false, [], [], .det 2 (.copy 3), [63, 3], (some 63), none⟩,
   o1 64 (.len 63),
   o1 65 (.idx .nil),
   o1 66 (.load 1 [] 0 (.t 65) 1 false),
   o1 67 (.data (.bin .eql) [.t 64, .t 66]),
   o1 2 (.copy 67)])
 .ret)))))
def s_iForestOk : Sig := ⟨[.rd true [.d, .sl (.own none) [.sl (.own none) [.d]]]], (.one false [.d])⟩
noncomputable def E_iForestOk : TEnv := envOf [(28, p_iin), (46, p_iTourOk), (47, p_iVertsOf), (41, p_ihasInt)]
noncomputable def f_iForestOk (n : Nat) : (Int × List (List (Int))) → Option ((Bool) × Unit) := runFn n E_iForestOk c_iForestOk [[.i .i64, .sl [.sl [.i .i64]]]] [.b] [] [2] .no
noncomputable def g_iForestOk := f_iForestOk BIG
noncomputable def p_iForestOk : TSp := ⟨s_iForestOk, [[.i .i64, .sl [.sl [.i .i64]]]], [.b], [], Ou.j .no, g_iForestOk⟩
theorem k_iForestOk : chkW PG E_iForestOk 14 s_iForestOk (c_iForestOk.ht 68) .no = some (c_iForestOk.wc E_iForestOk, [2]) := by kernel_rfl
theorem ok_iForestOk : p_iForestOk.Ok PG 14 := mkOk (env_cons ok_iin (env_cons ok_iTourOk (env_cons ok_iVertsOf (env_cons ok_ihasInt (env_nil PG))))) k_iForestOk (by kernel_rfl)
theorem e_iForestOk (n : Nat) (a0 : Int × List ((List (Int)))) : f_iForestOk n a0 =
  Option.bind (g_iin (a0.1, (1 : Int), (12 : Int))) fun r0 =>
  bif !r0.1 then
   some (false, ())
  else Option.bind (loopT n (X := (List (Int)) × Int) (B := ((List (Int))) ⊕ (Bool)) (fun self2 x1 =>
    bif decide (x1.2 < (a0.2.length : Int)) then
     Option.bind (bnd a0.2.length x1.2 fun n3 =>
      Option.bind a0.2[n3]? fun y4 =>
      Option.bind (g_iTourOk y4) fun r5 =>
      bif !r5.1 then
       some (Sum.inr false)
      else Option.bind (g_iVertsOf y4) fun r6 =>
      Option.bind (loopT n (X := Int) (B := (Unit) ⊕ (Bool)) (fun self8 x7 =>
        bif decide (x7 < (r6.1.length : Int)) then
         Option.bind (bnd r6.1.length x7 fun n9 =>
          Option.bind r6.1[n9]? fun y10 =>
          Option.bind (bif decide (a0.1 ≤ y10) then
            some true
           else Option.bind (g_ihasInt (x1.1, y10)) fun r11 =>
           some r11.1 : Option (Bool)) fun x12 =>
          bif x12 then
           some (Sum.inr false)
          else some (Sum.inl ()) : Option ((Unit) ⊕ (Bool))) fun y => match y with
         | .inl x13 =>
          self8 (IntKind.wrap .i64 (x7 + (1 : Int)))
         | .inr x13 =>
          some (Sum.inr x13)
        else some (Sum.inl ())) (0 : Int) : Option ((Unit) ⊕ (Bool))) fun y => match y with
      | .inl x14 =>
       bif decide (x1.1.length + r6.1.length ≤ 4294967296) then
        Option.bind (bif decide ((0 : Int) < x1.2) then
          bnd a0.2.length (IntKind.wrap .i64 (x1.2 - (1 : Int))) fun n15 =>
          Option.bind a0.2[n15]? fun y16 =>
          Option.bind (g_iVertsOf y16) fun r17 =>
          bnd r17.1.length (0 : Int) fun n18 =>
          Option.bind r17.1[n18]? fun y19 =>
          bnd r6.1.length (0 : Int) fun n20 =>
          Option.bind r6.1[n20]? fun y21 =>
          some (decide (y21 ≤ y19))
         else some false : Option (Bool)) fun x22 =>
        bif x22 then
         some (Sum.inr false)
        else some (Sum.inl (x1.1 ++ r6.1))
       else none
      | .inr x14 =>
       some (Sum.inr x14) : Option (((List (Int))) ⊕ (Bool))) fun y => match y with
     | .inl x23 =>
      self2 (x23, IntKind.wrap .i64 (x1.2 + (1 : Int)))
     | .inr x23 =>
      some (Sum.inr x23)
    else some (Sum.inl x1.1)) ([], (0 : Int)) : Option (((List (Int))) ⊕ (Bool))) fun y => match y with
  | .inl x24 =>
   some (decide ((x24.length : Int) = a0.1), ())
  | .inr x24 =>
   some (x24, ()) := by kernel_rfl
/- impl.TreeOf -/
def c_iTreeOf : TC :=
 (.seq (.rg [o1 2 (.a (.t 0)),
   o1 4 (.lit [.i .i64] [.int .i64 (0)])])
 (.seq (.seq (.rg [o1 7 (.load 2 [] 0 .nil 2 false),
   o3 8 14 [.t 7],
   o1 9 (.data .not [.t 8])])
 (.cond (.t 9)
  (.seq (.rg [o1 4 (.lit [.i .i64] [.int .i64 (-1)])])
  .ret)
  .skip))
 (.seq (.join [] 8387696 (some [⟨4, [.i .i64], false⟩]) (.seq (.rg [o1 10 (.idx .nil),
   o1 11 (.load 2 [] 1 (.t 10) 1 false),
   o1 12 (.len 11),
   o1 13 (.lit [.i .i64] [.int .i64 (0)])])
 (.block 0 (.loop [⟨13, [.i .i64], false⟩] 8380528
  (.seq (.rg [o1 14 (.data (.bin .lss) [.t 13, .t 12])])
  (.seq (.cond (.t 14)
   .skip
   (.exit 0))
  (.seq (.block 1 (.seq (.rg [o1 15 (.copy 13),
    o1 16 (.index 11 (.t 13)),
    o1 17 (.load 11 [(0, 1)] 0 (.t 16) 1 false),
    o1 5 (.copy 15),
    o1 6 (.copy 17)])
  (.seq (.rg [o1 18 (.copy 6),
    o1 19 (.copy 1),
    o3 20 41 [.t 18, .t 19]])
  (.cond (.t 20)
   (.seq (.rg [o1 21 (.copy 5),
     o1 4 (.copy 21)])
   .ret)
   .skip))))
  (.rg [o1 22 (.data (.bin .add) [.t 13, .c (.int .i64 (1))]),
    o1 13 (.copy 22)]))))))))
 (.seq (.rg [o1 4 (.lit [.i .i64] [.int .i64 (-1)])])
 .ret))))
def s_iTreeOf : Sig := ⟨[.rd true [.d, .sl (.own none) [.sl (.own none) [.d]]], .rd false [.d]], (.one false [.d])⟩
noncomputable def E_iTreeOf : TEnv := envOf [(14, p_iForestOk), (41, p_ihasInt)]
noncomputable def f_iTreeOf (n : Nat) : (Int × List (List (Int))) × Int → Option ((Int) × Unit) := runFn n E_iTreeOf c_iTreeOf [[.i .i64, .sl [.sl [.i .i64]]], [.i .i64]] [.i .i64] [] [4] .no
noncomputable def g_iTreeOf := f_iTreeOf BIG
noncomputable def p_iTreeOf : TSp := ⟨s_iTreeOf, [[.i .i64, .sl [.sl [.i .i64]]], [.i .i64]], [.i .i64], [], Ou.j .no, g_iTreeOf⟩
theorem k_iTreeOf : chkW PG E_iTreeOf 12 s_iTreeOf (c_iTreeOf.ht 23) .no = some (c_iTreeOf.wc E_iTreeOf, [4]) := by kernel_rfl
theorem ok_iTreeOf : p_iTreeOf.Ok PG 12 := mkOk (env_cons ok_iForestOk (env_cons ok_ihasInt (env_nil PG))) k_iTreeOf (by kernel_rfl)
theorem e_iTreeOf (n : Nat) (a0 : Int × List ((List (Int)))) (a1 : Int) : f_iTreeOf n (a0, a1) =
  Option.bind (g_iForestOk a0) fun r0 =>
  bif !r0.1 then
   some ((-1 : Int), ())
  else Option.bind (loopT n (X := Int) (B := (Unit) ⊕ (Int)) (fun self2 x1 =>
    bif decide (x1 < (a0.2.length : Int)) then
     bnd a0.2.length x1 fun n3 =>
     Option.bind a0.2[n3]? fun y4 =>
     Option.bind (g_ihasInt (y4, a1)) fun r5 =>
     bif r5.1 then
      some (Sum.inr x1)
     else self2 (IntKind.wrap .i64 (x1 + (1 : Int)))
    else some (Sum.inl ())) (0 : Int) : Option ((Unit) ⊕ (Int))) fun y => match y with
  | .inl x6 =>
   some ((-1 : Int), ())
  | .inr x6 =>
   some (x6, ()) := by kernel_rfl
/- impl.EdgeOk -/
def c_iEdgeOk : TC :=
 (.seq (.rg [o1 3 (.a (.t 1)),
   o1 4 (.lit [.b] [.bool false])])
 (.seq (.join [⟨4, [.b], false⟩] 268435440 none (.rg [o1 5 (.copy 0),
   o3 6 28 [.t 5, .c [.i .i64] [.int .i64 (1)], .c [.i .i64] [.int .i64 (12)]],
   o1 7 (.copy 6),
   o2 8 (.idx .nil) 2 true,
   o2 9 (.load 3 [] 0 (.t 8) 1 false) 2 true,
   o2 10 (.copy 0) 2 true,
   o2 11 (.data (.bin .sub) [.t 10, .c (.int .i64 (1))]) 2 true,
   ⟨false, [], [], .call 1 28 [.t 9, .c [.i .i64] [.int .i64 (0)], .t 11] .no, [12], (some 12), some (2, true)⟩,
   ⟨false, [], [], .pick 7 (.t 12) (.c (.bool false)), [13], (some 13), none⟩,
   o1 14 (.copy 13),
   o2 15 (.idx .nil) 9 true,
   o2 16 (.load 3 [] 1 (.t 15) 1 false) 9 true,
   o2 17 (.copy 0) 9 true,
   o2 18 (.data (.bin .sub) [.t 17, .c (.int .i64 (1))]) 9 true,
   ⟨false, [], [], .call 1 28 [.t 16, .c [.i .i64] [.int .i64 (0)], .t 18] .no, [19], (some 19), some (9, true)⟩,
   ⟨false, [], [], .pick 14 (.t 19) (.c (.bool false)), [20], (some 20), none⟩,
   o1 21 (.copy 20),
   o2 22 (.idx .nil) 16 true,
   o2 23 (.load 3 [] 0 (.t 22) 1 false) 16 true,
   o2 24 (.idx .nil) 16 true,
   o2 25 (.load 3 [] 1 (.t 24) 1 false) 16 true,
   o2 26 (.data (.bin .lss) [.t 23, .t 25]) 16 true,
   ⟨false, [], [], .pick 21 (.t 26) (.c (.bool false)), [27], (some 27), none⟩,
   o1 4 (.copy 27)]))
 .ret))
def s_iEdgeOk : Sig := ⟨[.rd false [.d], .rd true [.d, .d]], (.one false [.d])⟩
noncomputable def E_iEdgeOk : TEnv := envOf [(28, p_iin)]
noncomputable def f_iEdgeOk (n : Nat) : Int × (Int × Int) → Option ((Bool) × Unit) := runFn n E_iEdgeOk c_iEdgeOk [[.i .i64], [.i .i64, .i .i64]] [.b] [] [4] .no
noncomputable def g_iEdgeOk := f_iEdgeOk BIG
noncomputable def p_iEdgeOk : TSp := ⟨s_iEdgeOk, [[.i .i64], [.i .i64, .i .i64]], [.b], [], Ou.j .no, g_iEdgeOk⟩
theorem k_iEdgeOk : chkW PG E_iEdgeOk 42 s_iEdgeOk (c_iEdgeOk.ht 28) .no = some (c_iEdgeOk.wc E_iEdgeOk, [4]) := by kernel_rfl
theorem ok_iEdgeOk : p_iEdgeOk.Ok PG 42 := mkOk (env_cons ok_iin (env_nil PG)) k_iEdgeOk (by kernel_rfl)
theorem e_iEdgeOk (n : Nat) (a0 : Int) (a1 : Int × Int) : f_iEdgeOk n (a0, a1) =
  Option.bind (Option.bind (g_iin (a0, (1 : Int), (12 : Int))) fun r0 =>
   bif r0.1 then
    Option.bind (g_iin (a1.1, (0 : Int), IntKind.wrap .i64 (a0 - (1 : Int)))) fun r1 =>
    bif r1.1 then
     Option.bind (g_iin (a1.2, (0 : Int), IntKind.wrap .i64 (a0 - (1 : Int)))) fun r2 =>
     bif r2.1 then
      some (decide (a1.1 < a1.2))
     else some false
    else some false
   else some false : Option (Bool)) fun x3 =>
  some (x3, ()) := by kernel_rfl
/- impl.placeOf -/
def c_iplaceOf : TC :=
 (.seq (.rg [o1 4 (.lit [.i .i64] [.int .i64 (0)])])
 (.seq (.join [] 524272 (some [⟨4, [.i .i64], false⟩]) (.seq (.rg [o1 7 (.copy 0),
   o1 8 (.len 7),
   o1 9 (.lit [.i .i64] [.int .i64 (0)])])
 (.block 0 (.loop [⟨9, [.i .i64], false⟩] 523888
  (.seq (.rg [o1 10 (.data (.bin .lss) [.t 9, .t 8])])
  (.seq (.cond (.t 10)
   .skip
   (.exit 0))
  (.seq (.block 1 (.seq (.rg [o1 11 (.copy 9),
    o1 12 (.index 7 (.t 9)),
    o1 13 (.load 7 [(0, 1)] 0 (.t 12) 1 false),
    o1 5 (.copy 11),
    o1 6 (.copy 13)])
  (.seq (.rg [o1 14 (.copy 6),
    o1 15 (.copy 1),
    o1 16 (.data (.bin .eql) [.t 14, .t 15])])
  (.cond (.t 16)
   (.seq (.rg [o1 17 (.copy 5),
     o1 4 (.copy 17)])
   .ret)
   .skip))))
  (.rg [o1 18 (.data (.bin .add) [.t 9, .c (.int .i64 (1))]),
    o1 9 (.copy 18)]))))))))
 (.seq (.rg [o1 4 (.lit [.i .i64] [.int .i64 (-1)])])
 .ret)))
def s_iplaceOf : Sig := ⟨[.rd false [.sl (.own none) [.d]], .rd false [.d]], (.one false [.d])⟩
noncomputable def E_iplaceOf : TEnv := envOf []
noncomputable def f_iplaceOf (n : Nat) : List (Int) × Int → Option ((Int) × Unit) := runFn n E_iplaceOf c_iplaceOf [[.sl [.i .i64]], [.i .i64]] [.i .i64] [] [4] .no
noncomputable def g_iplaceOf := f_iplaceOf BIG
noncomputable def p_iplaceOf : TSp := ⟨s_iplaceOf, [[.sl [.i .i64]], [.i .i64]], [.i .i64], [], Ou.j .no, g_iplaceOf⟩
theorem k_iplaceOf : chkW PG E_iplaceOf 73 s_iplaceOf (c_iplaceOf.ht 19) .no = some (c_iplaceOf.wc E_iplaceOf, [4]) := by kernel_rfl
theorem ok_iplaceOf : p_iplaceOf.Ok PG 73 := mkOk (env_nil PG) k_iplaceOf (by kernel_rfl)
theorem e_iplaceOf (n : Nat) (a0 : List (Int)) (a1 : Int) : f_iplaceOf n (a0, a1) =
  Option.bind (loopT n (X := Int) (B := (Unit) ⊕ (Int)) (fun self1 x0 =>
    bif decide (x0 < (a0.length : Int)) then
     bnd a0.length x0 fun n2 =>
     Option.bind a0[n2]? fun y3 =>
     bif decide (y3 = a1) then
      some (Sum.inr x0)
     else self1 (IntKind.wrap .i64 (x0 + (1 : Int)))
    else some (Sum.inl ())) (0 : Int) : Option ((Unit) ⊕ (Int))) fun y => match y with
  | .inl x4 =>
   some ((-1 : Int), ())
  | .inr x4 =>
   some (x4, ()) := by kernel_rfl
/- impl.Reroot -/
def c_iReroot : TC :=
 (.seq (.rg [o1 4 (.lit [.sl [.i .i64]] [.slice none 0 0]),
   o1 5 (.lit [.b] [.bool false])])
 (.seq (.rg [o1 8 (.copy 0),
   o1 9 (.copy 1),
   o3 10 73 [.t 8, .t 9],
   o1 6 (.copy 10)])
 (.seq (.seq (.join [⟨17, [.b], false⟩] 260096 none (.rg [o1 11 (.copy 0),
   o3 12 46 [.t 11],
   o1 13 (.data .not [.t 12]),
   o1 14 (.copy 13),
   o2 15 (.copy 6) 3 false,
   o2 16 (.data (.bin .lss) [.t 15, .c (.int .i64 (0))]) 3 false,
   ⟨false, [], [], .pick 14 (.c (.bool true)) (.t 16), [17], (some 17), none⟩]))
 (.cond (.t 17)
  (.seq (.rg [o1 4 (.lit [.sl [.i .i64]] [.slice none 0 0]),
    o1 5 (.lit [.b] [.bool false])])
  .ret)
  .skip))
 (.seq (.rg [o1 18 (.copy 0),
   o1 19 (.copy 6),
   o1 20 (.copy 0),
   o1 21 (.len 20),
   o1 22 (.data (.bin .sub) [.t 21, .c (.int .i64 (1))]),
   o1 23 (.res 18 (some (.t 19)) (some (.t 22))),
   o3 24 74 [.t 23],
   ⟨false, [], [], .det 2 (.copy 24), [7, 24], (some 7), none⟩])
 (.seq (.rg [⟨false, [], [], .det 2 (.copy 7), [25, 7], (some 25), none⟩,
   o1 26 (.copy 0),
   o1 27 (.copy 6),
   o1 28 (.res 26 none (some (.t 27))),
   ⟨false, [], [], .det 2 (.app (some 25) 28), [29, 25], (some 29), none⟩,
   o1 30 (.copy 1),
   o1 31 (.sli [.i .i64] [.t 30]),
   ⟨false, [], [], .det 2 (.app (some 29) 31), [32, 29], (some 32), none⟩,
   ⟨false, [], [], .det 2 (.copy 32), [4, 32], (some 4), none⟩,
   o1 5 (.lit [.b] [.bool true])])
 .ret)))))
def s_iReroot : Sig := ⟨[.rd false [.sl (.own none) [.d]], .rd false [.d]], (.tup [(false, 1), (false, 1)] [.sl (.own none) [.d], .d])⟩
noncomputable def E_iReroot : TEnv := envOf [(73, p_iplaceOf), (46, p_iTourOk), (74, p_icopyInts)]
noncomputable def f_iReroot (n : Nat) : List (Int) × Int → Option ((List (Int) × Bool) × Unit) := runFn n E_iReroot c_iReroot [[.sl [.i .i64]], [.i .i64]] [.sl [.i .i64], .b] [] [4, 5] .no
noncomputable def g_iReroot := f_iReroot BIG
noncomputable def p_iReroot : TSp := ⟨s_iReroot, [[.sl [.i .i64]], [.i .i64]], [.sl [.i .i64], .b], [], Ou.j .no, g_iReroot⟩
theorem k_iReroot : chkW PG E_iReroot 72 s_iReroot (c_iReroot.ht 33) .no = some (c_iReroot.wc E_iReroot, [4, 5]) := by kernel_rfl
theorem ok_iReroot : p_iReroot.Ok PG 72 := mkOk (env_cons ok_iplaceOf (env_cons ok_iTourOk (env_cons ok_icopyInts (env_nil PG)))) k_iReroot (by kernel_rfl)
theorem e_iReroot (n : Nat) (a0 : List (Int)) (a1 : Int) : f_iReroot n (a0, a1) =
  Option.bind (g_iplaceOf (a0, a1)) fun r0 =>
  Option.bind (Option.bind (g_iTourOk a0) fun r1 =>
   bif !r1.1 then
    some true
   else some (decide (r0.1 < (0 : Int))) : Option (Bool)) fun x2 =>
  bif x2 then
   some (([], false), ())
  else bif decide (0 ≤ r0.1) then
   bif decide (0 ≤ (IntKind.wrap .i64 ((a0.length : Int) - (1 : Int)))) then
    bif decide ((Int.toNat r0.1) ≤ (Int.toNat (IntKind.wrap .i64 ((a0.length : Int) - (1 : Int)))) ∧ (Int.toNat (IntKind.wrap .i64 ((a0.length : Int) - (1 : Int)))) ≤ a0.length) then
     Option.bind (g_icopyInts (List.take ((Int.toNat (IntKind.wrap .i64 ((a0.length : Int) - (1 : Int)))) - (Int.toNat r0.1)) (List.drop (Int.toNat r0.1) a0))) fun r3 =>
     bif decide (0 ≤ r0.1) then
      bif decide (0 ≤ (Int.toNat r0.1) ∧ (Int.toNat r0.1) ≤ a0.length) then
       bif decide (r3.1.length + (List.take ((Int.toNat r0.1) - 0) (List.drop 0 a0)).length ≤ 4294967296) then
        bif decide ((r3.1 ++ (List.take ((Int.toNat r0.1) - 0) (List.drop 0 a0))).length + [a1].length ≤ 4294967296) then
         some (((r3.1 ++ (List.take ((Int.toNat r0.1) - 0) (List.drop 0 a0))) ++ [a1], true), ())
        else none
       else none
      else none
     else none
    else none
   else none
  else none := by kernel_rfl
/- impl.JoinTours -/
def c_iJoinTours : TC :=
 (.seq (.rg [o1 8 (.lit [.sl [.i .i64]] [.slice none 0 0]),
   o1 9 (.lit [.b] [.bool false])])
 (.seq (.rg [o1 17 (.copy 2),
   o1 18 (.copy 3),
   o3 19 72 [.t 17, .t 18],
   ⟨false, [], [], .det 2 (.copy 19), [16, 19], (some 16), none⟩,
   ⟨false, [], [], .det 2 (.ext 16 0 1), [20, 16], (some 20), none⟩,
   o1 21 (.ext 16 1 1),
   ⟨false, [], [], .det 2 (.copy 20), [10, 20], (some 10), none⟩,
   o1 11 (.copy 21)])
 (.seq (.seq (.join [⟨34, [.b], false⟩] 34355544064 none (.rg [o1 22 (.copy 0),
   o3 23 46 [.t 22],
   o1 24 (.data .not [.t 23]),
   o1 25 (.copy 24),
   o2 26 (.copy 11) 3 false,
   o2 27 (.data .not [.t 26]) 3 false,
   ⟨false, [], [], .pick 25 (.c (.bool true)) (.t 27), [28], (some 28), none⟩,
   o1 29 (.copy 28),
   o2 30 (.copy 0) 7 false,
   o2 31 (.copy 1) 7 false,
   ⟨false, [], [], .call 1 73 [.t 30, .t 31] .no, [32], (some 32), some (7, false)⟩,
   o2 33 (.data (.bin .lss) [.t 32, .c (.int .i64 (0))]) 7 false,
   ⟨false, [], [], .pick 29 (.c (.bool true)) (.t 33), [34], (some 34), none⟩]))
 (.cond (.t 34)
  (.seq (.rg [o1 8 (.lit [.sl [.i .i64]] [.slice none 0 0]),
    o1 9 (.lit [.b] [.bool false])])
  .ret)
  .skip))
 (.seq (.join [] 35150012359424 (some [⟨8, [.sl [.i .i64]], false⟩, ⟨9, [.b], false⟩]) (.seq (.rg [o1 35 (.copy 0),
   o1 36 (.len 35),
   o1 37 (.lit [.i .i64] [.int .i64 (0)])])
 (.block 0 (.loop [⟨37, [.i .i64], false⟩] 35046933144320
  (.seq (.rg [o1 38 (.data (.bin .lss) [.t 37, .t 36])])
  (.seq (.cond (.t 38)
   .skip
   (.exit 0))
  (.seq (.block 1 (.seq (.rg [o1 39 (.index 35 (.t 37)),
    o1 40 (.load 35 [(0, 1)] 0 (.t 39) 1 false),
    o1 13 (.copy 40)])
  (.seq (.rg [o1 41 (.copy 2),
    o1 42 (.copy 13),
    o3 43 41 [.t 41, .t 42]])
  (.cond (.t 43)
   (.seq (.rg [o1 8 (.lit [.sl [.i .i64]] [.slice none 0 0]),
     o1 9 (.lit [.b] [.bool false])])
   .ret)
   .skip))))
  (.rg [o1 44 (.data (.bin .add) [.t 37, .c (.int .i64 (1))]),
    o1 37 (.copy 44)]))))))))
 (.seq (.rg [o1 45 (.copy 0),
   o1 46 (.len 45),
   o1 47 (.data (.bin .sub) [.t 46, .c (.int .i64 (1))]),
   o1 14 (.copy 47)])
 (.seq (.join [⟨14, [.i .i64], false⟩] 71776119061233664 none (.block 2 (.loop [⟨14, [.i .i64], false⟩] 71776119061233664
  (.seq (.seq (.rg [o1 48 (.copy 0),
    o1 49 (.copy 14),
    o1 50 (.index 48 (.t 49)),
    o1 51 (.load 48 [(0, 1)] 0 (.t 50) 1 false),
    o1 52 (.copy 1),
    o1 53 (.data (.bin .neq) [.t 51, .t 52])])
  (.cond (.t 53)
   .skip
   (.exit 2)))
  (.block 3 (.rg [o1 54 (.copy 14),
    o1 55 (.data (.bin .sub) [.t 54, .c (.int .i64 (1))]),
    o1 14 (.copy 55)]))))))
 (.seq (.rg [o1 56 (.copy 0),
   o1 57 (.copy 14),
   o1 58 (.data (.bin .add) [.t 57, .c (.int .i64 (1))]),
   o1 59 (.res 56 none (some (.t 58))),
   o3 60 74 [.t 59],
   ⟨false, [], [], .det 2 (.copy 10), [61, 10], (some 61), none⟩,
   ⟨false, [], [], .det 2 (.app (some 60) 61), [62, 60], (some 62), none⟩,
   ⟨false, [], [], .det 2 (.copy 62), [15, 62], (some 15), none⟩])
 (.seq (.rg [⟨false, [], [], .det 2 (.copy 15), [63, 15], (some 63), none⟩,
   o1 64 (.copy 0),
   o1 65 (.copy 14),
   o1 66 (.res 64 (some (.t 65)) none),
   ⟨false, [], [], .det 2 (.app (some 63) 66), [67, 63], (some 67), none⟩,
   ⟨false, [], [], .det 2 (.copy 67), [8, 67], (some 8), none⟩,
   o1 9 (.lit [.b] [.bool true])])
 .ret))))))))
def s_iJoinTours : Sig := ⟨[.rd false [.sl (.own none) [.d]], .rd false [.d], .rd false [.sl (.own none) [.d]], .rd false [.d]], (.tup [(false, 1), (false, 1)] [.sl (.own none) [.d], .d])⟩
noncomputable def E_iJoinTours : TEnv := envOf [(72, p_iReroot), (46, p_iTourOk), (73, p_iplaceOf), (41, p_ihasInt), (74, p_icopyInts)]
noncomputable def f_iJoinTours (n : Nat) : List (Int) × Int × List (Int) × Int → Option ((List (Int) × Bool) × Unit) := runFn n E_iJoinTours c_iJoinTours [[.sl [.i .i64]], [.i .i64], [.sl [.i .i64]], [.i .i64]] [.sl [.i .i64], .b] [] [8, 9] .no
noncomputable def g_iJoinTours := f_iJoinTours BIG
noncomputable def p_iJoinTours : TSp := ⟨s_iJoinTours, [[.sl [.i .i64]], [.i .i64], [.sl [.i .i64]], [.i .i64]], [.sl [.i .i64], .b], [], Ou.j .no, g_iJoinTours⟩
theorem k_iJoinTours : chkW PG E_iJoinTours 43 s_iJoinTours (c_iJoinTours.ht 68) .no = some (c_iJoinTours.wc E_iJoinTours, [8, 9]) := by kernel_rfl
theorem ok_iJoinTours : p_iJoinTours.Ok PG 43 := mkOk (env_cons ok_iReroot (env_cons ok_iTourOk (env_cons ok_iplaceOf (env_cons ok_ihasInt (env_cons ok_icopyInts (env_nil PG)))))) k_iJoinTours (by kernel_rfl)
theorem e_iJoinTours (n : Nat) (a0 : List (Int)) (a1 : Int) (a2 : List (Int)) (a3 : Int) : f_iJoinTours n (a0, a1, a2, a3) =
  Option.bind (g_iReroot (a2, a3)) fun r0 =>
  Option.bind (Option.bind (g_iTourOk a0) fun r1 =>
   bif !r1.1 then
    some true
   else bif !r0.1.2 then
    some true
   else Option.bind (g_iplaceOf (a0, a1)) fun r2 =>
   some (decide (r2.1 < (0 : Int))) : Option (Bool)) fun x3 =>
  bif x3 then
   some (([], false), ())
  else Option.bind (loopT n (X := Int) (B := (Unit) ⊕ ((List (Int)) × Bool)) (fun self5 x4 =>
    bif decide (x4 < (a0.length : Int)) then
     bnd a0.length x4 fun n6 =>
     Option.bind a0[n6]? fun y7 =>
     Option.bind (g_ihasInt (a2, y7)) fun r8 =>
     bif r8.1 then
      some (Sum.inr ([], false))
     else self5 (IntKind.wrap .i64 (x4 + (1 : Int)))
    else some (Sum.inl ())) (0 : Int) : Option ((Unit) ⊕ ((List (Int)) × Bool))) fun y => match y with
  | .inl x9 =>
   Option.bind (loopT n (X := Int) (B := Int) (fun self11 x10 =>
     bnd a0.length x10 fun n12 =>
     Option.bind a0[n12]? fun y13 =>
     bif !decide (y13 = a1) then
      self11 (IntKind.wrap .i64 (x10 - (1 : Int)))
     else some x10) (IntKind.wrap .i64 ((a0.length : Int) - (1 : Int))) : Option (Int)) fun x14 =>
   bif decide (0 ≤ (IntKind.wrap .i64 (x14 + (1 : Int)))) then
    bif decide (0 ≤ (Int.toNat (IntKind.wrap .i64 (x14 + (1 : Int)))) ∧ (Int.toNat (IntKind.wrap .i64 (x14 + (1 : Int)))) ≤ a0.length) then
     Option.bind (g_icopyInts (List.take ((Int.toNat (IntKind.wrap .i64 (x14 + (1 : Int)))) - 0) (List.drop 0 a0))) fun r15 =>
     bif decide (r15.1.length + r0.1.1.length ≤ 4294967296) then
      bif decide (0 ≤ x14) then
       bif decide ((Int.toNat x14) ≤ a0.length ∧ a0.length ≤ a0.length) then
        bif decide ((r15.1 ++ r0.1.1).length + (List.take (a0.length - (Int.toNat x14)) (List.drop (Int.toNat x14) a0)).length ≤ 4294967296) then
         some (((r15.1 ++ r0.1.1) ++ (List.take (a0.length - (Int.toNat x14)) (List.drop (Int.toNat x14) a0)), true), ())
        else none
       else none
      else none
     else none
    else none
   else none
  | .inr x9 =>
   some (x9, ()) := by kernel_rfl
/- impl.without -/
def c_iwithout : TC :=
 (.seq (.rg [o1 3 (.a (.t 0)),
   ⟨false, [], [], .det 2 (.a (.c [.i .i64, .sl [.sl [.i .i64]]] [.int .i64 (0), .slice none 0 0])), [6, 1000000007], (some 6), none⟩])
 (.seq (.rg [o1 10 (.idx .nil),
   o1 11 (.load 3 [] 0 (.t 10) 1 false),
   o1 12 (.build [.i .i64, .sl [.sl [.i .i64]]] [(0, .t 11)]),
   ⟨false, [], [], .det 2 (.a (.c [.i .i64, .sl [.sl [.i .i64]]] [.int .i64 (0), .slice none 0 0])), [7, 1000000008], (some 7), none⟩,
   o4 2 [7, 12] (.store 7 [] 0 .nil (.t 12))])
 (.seq (.join [⟨7, [.i .i64, .sl [.sl [.i .i64]]], false⟩] 137438946176 none (.seq (.rg [o1 13 (.idx .nil),
   o1 14 (.load 3 [] 1 (.t 13) 1 false),
   o1 15 (.len 14),
   o1 16 (.lit [.i .i64] [.int .i64 (0)])])
 (.block 0 (.loop [⟨7, [.i .i64, .sl [.sl [.i .i64]]], false⟩, ⟨16, [.i .i64], false⟩] 137438888832
  (.seq (.rg [o1 17 (.data (.bin .lss) [.t 16, .t 15])])
  (.seq (.cond (.t 17)
   .skip
   (.exit 0))
  (.seq (.join [⟨7, [.i .i64, .sl [.sl [.i .i64]]], false⟩] 68719215488 none (.block 1 (.seq (.rg [o1 18 (.copy 16),
    o1 19 (.index 14 (.t 16)),
    o1 20 (.load 14 [(0, 1)] 0 (.t 19) 1 false),
    o1 8 (.copy 18),
    o1 9 (.copy 20)])
  (.seq (.join [⟨28, [.b], false⟩] 534773760 none (.rg [o1 21 (.copy 8),
    o1 22 (.copy 1),
    o1 23 (.data (.bin .neq) [.t 21, .t 22]),
    o1 24 (.copy 23),
    o2 25 (.copy 8) 3 true,
    o2 26 (.copy 2) 3 true,
    o2 27 (.data (.bin .neq) [.t 25, .t 26]) 3 true,
    ⟨false, [], [], .pick 24 (.t 27) (.c (.bool false)), [28], (some 28), none⟩]))
  (.cond (.t 28)
   (.rg [o1 31 (.copy 9),
     o1 29 (.idx .nil),
     o1 30 (.load 7 [] 1 (.t 29) 1 true),
     o3 32 74 [.t 31],
     ⟨false, [], [], .det 2 (.sli [.sl [.i .i64]] [.t 32]), [33, 32], (some 33), none⟩,
     ⟨false, [30], [], .det 3 (.app (some 30) 33), [34, 30, 33, 30, 7], (some 34), none⟩,
     o1 35 (.idx .nil),
     o4 2 [7, 34, 30] (.store 7 [] 1 (.t 35) (.t 34))])
   .skip)))))
  (.rg [o1 36 (.data (.bin .add) [.t 16, .c (.int .i64 (1))]),
    o1 16 (.copy 36)]))))))))
 (.seq (.rg [o1 37 (.load 7 [] 0 .nil 2 true),
   ⟨false, [37], [], .det 2 (.store 6 [] 0 .nil (.t 37)), [6, 37, 37, 7], none, none⟩])
 .ret))))
def s_iwithout : Sig := ⟨[.rd true [.d, .sl (.own none) [.sl (.own none) [.d]]], .rd false [.d], .rd false [.d]], (.one true [.d, .sl (.own none) [.sl (.own none) [.d]]])⟩
noncomputable def E_iwithout : TEnv := envOf [(74, p_icopyInts)]
noncomputable def f_iwithout (n : Nat) : (Int × List (List (Int))) × Int × Int → Option ((Int × List (List (Int))) × Unit) := runFn n E_iwithout c_iwithout [[.i .i64, .sl [.sl [.i .i64]]], [.i .i64], [.i .i64]] [.i .i64, .sl [.sl [.i .i64]]] [] [6] .no
noncomputable def g_iwithout := f_iwithout BIG
noncomputable def p_iwithout : TSp := ⟨s_iwithout, [[.i .i64, .sl [.sl [.i .i64]]], [.i .i64], [.i .i64]], [.i .i64, .sl [.sl [.i .i64]]], [], Ou.j .no, g_iwithout⟩
theorem k_iwithout : chkW PG E_iwithout 44 s_iwithout (c_iwithout.ht 38) .no = some (c_iwithout.wc E_iwithout, [6]) := by kernel_rfl
theorem ok_iwithout : p_iwithout.Ok PG 44 := mkOk (env_cons ok_icopyInts (env_nil PG)) k_iwithout (by kernel_rfl)
theorem e_iwithout (n : Nat) (a0 : Int × List ((List (Int)))) (a1 : Int) (a2 : Int) : f_iwithout n (a0, a1, a2) =
  Option.bind (loopT n (X := (Int × List ((List (Int)))) × Int) (B := (Int × List ((List (Int))))) (fun self1 x0 =>
    bif decide (x0.2 < (a0.2.length : Int)) then
     Option.bind (bnd a0.2.length x0.2 fun n2 =>
      Option.bind a0.2[n2]? fun y3 =>
      Option.bind (bif !decide (x0.2 = a1) then
        some (!decide (x0.2 = a2))
       else some false : Option (Bool)) fun x4 =>
      bif x4 then
       Option.bind (g_icopyInts y3) fun r5 =>
       bif decide (x0.1.2.length + [r5.1].length ≤ 4294967296) then
        some (x0.1.1, x0.1.2 ++ [r5.1])
       else none
      else some x0.1 : Option ((Int × List ((List (Int)))))) fun x6 =>
     self1 (x6, IntKind.wrap .i64 (x0.2 + (1 : Int)))
    else some x0.1) ((a0.1, []), (0 : Int)) : Option ((Int × List ((List (Int)))))) fun x7 =>
  some (x7, ()) := by kernel_rfl
/- impl.putTour -/
def c_iputTour : TC :=
 (.seq (.rg [o1 4 (.lit [.sl [.sl [.i .i64]]] [.slice none 0 0])])
 (.seq (.rg [o1 7 (.copy 1),
   o3 8 47 [.t 7],
   o1 9 (.index 8 (.c (.int .i64 (0)))),
   o1 10 (.load 8 [(0, 1)] 0 (.t 9) 1 false),
   o1 5 (.copy 10)])
 (.seq (.rg [o1 6 (.lit [.i .i64] [.int .i64 (0)])])
 (.seq (.join [⟨6, [.i .i64], false⟩] 268433472 none (.block 0 (.loop [⟨6, [.i .i64], false⟩] 268433472
  (.seq (.seq (.join [⟨25, [.b], false⟩] 67106816 none (.rg [o1 11 (.copy 6),
    o1 12 (.copy 0),
    o1 13 (.len 12),
    o1 14 (.data (.bin .lss) [.t 11, .t 13]),
    o1 15 (.copy 14),
    o2 16 (.copy 0) 4 true,
    o2 17 (.copy 6) 4 true,
    o2 18 (.index 16 (.t 17)) 4 true,
    o2 19 (.load 16 [(0, 1)] 0 (.t 18) 1 false) 4 true,
    ⟨false, [], [], .call 1 47 [.t 19] .no, [20], (some 20), some (4, true)⟩,
    o2 21 (.index 20 (.c (.int .i64 (0)))) 4 true,
    o2 22 (.load 20 [(0, 1)] 0 (.t 21) 1 false) 4 true,
    o2 23 (.copy 5) 4 true,
    o2 24 (.data (.bin .lss) [.t 22, .t 23]) 4 true,
    ⟨false, [], [], .pick 15 (.t 24) (.c (.bool false)), [25], (some 25), none⟩]))
  (.cond (.t 25)
   .skip
   (.exit 0)))
  (.block 1 (.rg [o1 26 (.copy 6),
    o1 27 (.data (.bin .add) [.t 26, .c (.int .i64 (1))]),
    o1 6 (.copy 27)]))))))
 (.seq (.rg [o1 28 (.copy 0),
   o1 29 (.copy 6),
   o1 32 (.copy 1),
   o1 35 (.copy 0),
   o1 36 (.copy 6),
   ⟨true, [], [], .det 1 (.res 28 none (some (.t 29))), [30], (some 30), none⟩,
   o1 31 (.app none 30),
   o1 33 (.sli [.sl [.i .i64]] [.t 32]),
   ⟨false, [], [], .det 2 (.app (some 31) 33), [34, 31], (some 34), none⟩,
   ⟨true, [], [], .det 1 (.res 35 (some (.t 36)) none), [37], (some 37), none⟩,
   ⟨false, [], [], .det 2 (.app (some 34) 37), [38, 34], (some 38), none⟩,
   ⟨false, [], [], .det 2 (.copy 38), [4, 38], (some 4), none⟩])
 .ret)))))
def s_iputTour : Sig := ⟨[.rd false [.sl (.own none) [.sl (.own none) [.d]]], .rd false [.sl (.own none) [.d]]], (.one false [.sl (.own none) [.sl (.ro [0, 1]) [.d]]])⟩
noncomputable def E_iputTour : TEnv := envOf [(47, p_iVertsOf)]
noncomputable def f_iputTour (n : Nat) : List (List (Int)) × List (Int) → Option ((List (List (Int))) × Unit) := runFn n E_iputTour c_iputTour [[.sl [.sl [.i .i64]]], [.sl [.i .i64]]] [.sl [.sl [.i .i64]]] [] [4] .no
noncomputable def g_iputTour := f_iputTour BIG
noncomputable def p_iputTour : TSp := ⟨s_iputTour, [[.sl [.sl [.i .i64]]], [.sl [.i .i64]]], [.sl [.sl [.i .i64]]], [], Ou.j .no, g_iputTour⟩
theorem k_iputTour : chkW PG E_iputTour 45 s_iputTour (c_iputTour.ht 39) .no = some (c_iputTour.wc E_iputTour, [4]) := by kernel_rfl
theorem ok_iputTour : p_iputTour.Ok PG 45 := mkOk (env_cons ok_iVertsOf (env_nil PG)) k_iputTour (by kernel_rfl)
theorem e_iputTour (n : Nat) (a0 : List ((List (Int)))) (a1 : List (Int)) : f_iputTour n (a0, a1) =
  Option.bind (g_iVertsOf a1) fun r0 =>
  bnd r0.1.length (0 : Int) fun n1 =>
  Option.bind r0.1[n1]? fun y2 =>
  Option.bind (loopT n (X := Int) (B := Int) (fun self4 x3 =>
    Option.bind (bif decide (x3 < (a0.length : Int)) then
      bnd a0.length x3 fun n5 =>
      Option.bind a0[n5]? fun y6 =>
      Option.bind (g_iVertsOf y6) fun r7 =>
      bnd r7.1.length (0 : Int) fun n8 =>
      Option.bind r7.1[n8]? fun y9 =>
      some (decide (y9 < y2))
     else some false : Option (Bool)) fun x10 =>
    bif x10 then
     self4 (IntKind.wrap .i64 (x3 + (1 : Int)))
    else some x3) (0 : Int) : Option (Int)) fun x11 =>
  bif decide (0 ≤ x11) then
   bif decide (0 ≤ (Int.toNat x11) ∧ (Int.toNat x11) ≤ a0.length) then
    bif decide ((List.take ((Int.toNat x11) - 0) (List.drop 0 a0)).length ≤ 4294967296) then
     bif decide ((List.take ((Int.toNat x11) - 0) (List.drop 0 a0)).length + [a1].length ≤ 4294967296) then
      bif decide (0 ≤ x11) then
       bif decide ((Int.toNat x11) ≤ a0.length ∧ a0.length ≤ a0.length) then
        bif decide (((List.take ((Int.toNat x11) - 0) (List.drop 0 a0)) ++ [a1]).length + (List.take (a0.length - (Int.toNat x11)) (List.drop (Int.toNat x11) a0)).length ≤ 4294967296) then
         some (((List.take ((Int.toNat x11) - 0) (List.drop 0 a0)) ++ [a1]) ++ (List.take (a0.length - (Int.toNat x11)) (List.drop (Int.toNat x11) a0)), ())
        else none
       else none
      else none
     else none
    else none
   else none
  else none := by kernel_rfl
/- impl.Link -/
def c_iLink : TC :=
 (.seq (.rg [o1 2 (.a (.t 0)),
   o1 3 (.a (.t 1)),
   ⟨false, [], [], .det 2 (.a (.c [.i .i64, .sl [.sl [.i .i64]]] [.int .i64 (0), .slice none 0 0])), [4, 1000000005], (some 4), none⟩,
   o1 5 (.lit [.b] [.bool false])])
 (.seq (.seq (.join [⟨20, [.b], false⟩] 2095104 none (.rg [o1 11 (.load 2 [] 0 .nil 2 false),
   o3 12 14 [.t 11],
   o1 13 (.data .not [.t 12]),
   o1 14 (.copy 13),
   o2 15 (.idx .nil) 3 false,
   o2 16 (.load 2 [] 0 (.t 15) 1 false) 3 false,
   o2 17 (.load 3 [] 0 .nil 2 false) 3 false,
   ⟨false, [], [], .call 1 42 [.t 16, .t 17] .no, [18], (some 18), some (3, false)⟩,
   o2 19 (.data .not [.t 18]) 3 false,
   ⟨false, [], [], .pick 14 (.c (.bool true)) (.t 19), [20], (some 20), none⟩]))
 (.cond (.t 20)
  (.seq (.rg [o1 21 (.build [.i .i64, .sl [.sl [.i .i64]]] []),
    ⟨false, [21], [], .det 2 (.store 4 [] 0 .nil (.t 21)), [4, 21, 21], none, none⟩,
    o1 5 (.lit [.b] [.bool false])])
  .ret)
  .skip))
 (.seq (.rg [o1 22 (.load 2 [] 0 .nil 2 false),
   o1 23 (.idx .nil),
   o1 24 (.load 3 [] 0 (.t 23) 1 false),
   o3 25 12 [.t 22, .t 24],
   o1 26 (.load 2 [] 0 .nil 2 false),
   o1 27 (.idx .nil),
   o1 28 (.load 3 [] 1 (.t 27) 1 false),
   o3 29 12 [.t 26, .t 28],
   o1 6 (.copy 25),
   o1 7 (.copy 29)])
 (.seq (.seq (.rg [o1 30 (.copy 6),
   o1 31 (.copy 7),
   o1 32 (.data (.bin .eql) [.t 30, .t 31])])
 (.cond (.t 32)
  (.seq (.rg [o1 33 (.build [.i .i64, .sl [.sl [.i .i64]]] []),
    ⟨false, [33], [], .det 2 (.store 4 [] 0 .nil (.t 33)), [4, 33, 33], none, none⟩,
    o1 5 (.lit [.b] [.bool false])])
  .ret)
  .skip))
 (.seq (.rg [o1 37 (.copy 6),
   o1 44 (.copy 7),
   o1 35 (.idx .nil),
   o1 36 (.load 2 [] 1 (.t 35) 1 false),
   o1 38 (.index 36 (.t 37)),
   o1 39 (.load 36 [(0, 1)] 0 (.t 38) 1 false),
   o1 40 (.idx .nil),
   o1 41 (.load 3 [] 0 (.t 40) 1 false),
   o1 42 (.idx .nil),
   o1 43 (.load 2 [] 1 (.t 42) 1 false),
   o1 45 (.index 43 (.t 44)),
   o1 46 (.load 43 [(0, 1)] 0 (.t 45) 1 false),
   o1 47 (.idx .nil),
   o1 48 (.load 3 [] 1 (.t 47) 1 false),
   o3 49 43 [.t 39, .t 41, .t 46, .t 48],
   ⟨false, [], [], .det 2 (.copy 49), [34, 49], (some 34), none⟩,
   ⟨false, [], [], .det 2 (.ext 34 0 1), [50, 34], (some 50), none⟩,
   o1 51 (.ext 34 1 1),
   ⟨false, [], [], .det 2 (.copy 50), [8, 50], (some 8), none⟩,
   o1 9 (.copy 51)])
 (.seq (.rg [o1 52 (.load 2 [] 0 .nil 2 false),
   o1 53 (.copy 6),
   o1 54 (.copy 7),
   o3 55 44 [.t 52, .t 53, .t 54],
   ⟨false, [], [], .det 2 (.a (.c [.i .i64, .sl [.sl [.i .i64]]] [.int .i64 (0), .slice none 0 0])), [10, 1000000011], (some 10), none⟩,
   ⟨false, [55], [], .det 2 (.store 10 [] 0 .nil (.t 55)), [10, 55, 55], none, none⟩])
 (.seq (.rg [⟨false, [], [3000010001], .det 1 (.idx .nil), [56, 10], (some 56), none⟩,
   o1 57 (.load 10 [] 1 (.t 56) 1 false),
   ⟨false, [8], [], .det 1 (.copy 8), [58, 8], (some 58), none⟩,
   o3 59 45 [.t 57, .t 58],
   o1 60 (.idx .nil),
   o4 2 [10, 59] (.store 10 [] 1 (.t 60) (.t 59))])
 (.seq (.rg [o1 61 (.load 10 [] 0 .nil 2 true),
   o1 62 (.copy 9),
   ⟨false, [61], [], .det 2 (.store 4 [] 0 .nil (.t 61)), [4, 61, 61, 10], none, none⟩,
   o1 5 (.copy 62)])
 .ret))))))))
def s_iLink : Sig := ⟨[.rd true [.d, .sl (.own none) [.sl (.own none) [.d]]], .rd true [.d, .d]], (.tup [(true, 2), (false, 1)] [.d, .sl (.own none) [.sl (.ro []) [.d]], .d])⟩
noncomputable def E_iLink : TEnv := envOf [(14, p_iForestOk), (42, p_iEdgeOk), (12, p_iTreeOf), (43, p_iJoinTours), (44, p_iwithout), (45, p_iputTour)]
noncomputable def f_iLink (n : Nat) : (Int × List (List (Int))) × (Int × Int) → Option ((Int × List (List (Int)) × Bool) × Unit) := runFn n E_iLink c_iLink [[.i .i64, .sl [.sl [.i .i64]]], [.i .i64, .i .i64]] [.i .i64, .sl [.sl [.i .i64]], .b] [] [4, 5] .no
noncomputable def g_iLink := f_iLink BIG
noncomputable def p_iLink : TSp := ⟨s_iLink, [[.i .i64, .sl [.sl [.i .i64]]], [.i .i64, .i .i64]], [.i .i64, .sl [.sl [.i .i64]], .b], [], Ou.j .no, g_iLink⟩
theorem k_iLink : chkW PG E_iLink 13 s_iLink (c_iLink.ht 63) .no = some (c_iLink.wc E_iLink, [4, 5]) := by kernel_rfl
theorem ok_iLink : p_iLink.Ok PG 13 := mkOk (env_cons ok_iForestOk (env_cons ok_iEdgeOk (env_cons ok_iTreeOf (env_cons ok_iJoinTours (env_cons ok_iwithout (env_cons ok_iputTour (env_nil PG))))))) k_iLink (by kernel_rfl)
theorem e_iLink (n : Nat) (a0 : Int × List ((List (Int)))) (a1 : Int × Int) : f_iLink n (a0, a1) =
  Option.bind (Option.bind (g_iForestOk a0) fun r0 =>
   bif !r0.1 then
    some true
   else Option.bind (g_iEdgeOk (a0.1, a1)) fun r1 =>
   some !r1.1 : Option (Bool)) fun x2 =>
  bif x2 then
   some (((0 : Int), [], false), ())
  else Option.bind (g_iTreeOf (a0, a1.1)) fun r3 =>
  Option.bind (g_iTreeOf (a0, a1.2)) fun r4 =>
  bif decide (r3.1 = r4.1) then
   some (((0 : Int), [], false), ())
  else bnd a0.2.length r3.1 fun n5 =>
  Option.bind a0.2[n5]? fun y6 =>
  bnd a0.2.length r4.1 fun n7 =>
  Option.bind a0.2[n7]? fun y8 =>
  Option.bind (g_iJoinTours (y6, a1.1, y8, a1.2)) fun r9 =>
  Option.bind (g_iwithout (a0, r3.1, r4.1)) fun r10 =>
  Option.bind (g_iputTour (r10.1.2, r9.1.1)) fun r11 =>
  some ((r10.1.1, r11.1, r9.1.2), ()) := by kernel_rfl
/- impl.SplitTour -/
def c_iSplitTour : TC :=
 (.seq (.rg [o1 6 (.lit [.sl [.i .i64]] [.slice none 0 0]),
   o1 7 (.lit [.sl [.i .i64]] [.slice none 0 0]),
   o1 8 (.lit [.b] [.bool false])])
 (.seq (.seq (.rg [o1 12 (.copy 0),
   o3 13 46 [.t 12],
   o1 14 (.data .not [.t 13])])
 (.cond (.t 14)
  (.seq (.rg [o1 6 (.lit [.sl [.i .i64]] [.slice none 0 0]),
    o1 7 (.lit [.sl [.i .i64]] [.slice none 0 0]),
    o1 8 (.lit [.b] [.bool false])])
  .ret)
  .skip))
 (.seq (.rg [o1 9 (.lit [.i .i64] [.int .i64 (-1)]),
   o1 10 (.lit [.i .i64] [.int .i64 (-1)])])
 (.seq (.join [⟨9, [.i .i64], false⟩, ⟨10, [.i .i64], false⟩] 288230376151682560 none (.seq (.rg [o1 11 (.lit [.i .i64] [.int .i64 (0)])])
 (.block 0 (.loop [⟨9, [.i .i64], false⟩, ⟨10, [.i .i64], false⟩, ⟨11, [.i .i64], false⟩] 288230376151682560
  (.seq (.seq (.rg [o1 15 (.copy 11),
    o1 16 (.data (.bin .add) [.t 15, .c (.int .i64 (1))]),
    o1 17 (.copy 0),
    o1 18 (.len 17),
    o1 19 (.data (.bin .lss) [.t 16, .t 18])])
  (.cond (.t 19)
   .skip
   (.exit 0)))
  (.seq (.join [⟨9, [.i .i64], false⟩, ⟨10, [.i .i64], false⟩] 288230376147518976 none (.block 1 (.seq (.join [⟨53, [.b], false⟩] 18014398505287680 none (.rg [o1 22 (.copy 0),
    o1 23 (.copy 11),
    o1 24 (.index 22 (.t 23)),
    o1 25 (.load 22 [(0, 1)] 0 (.t 24) 1 false),
    o1 26 (.copy 1),
    o1 27 (.data (.bin .eql) [.t 25, .t 26]),
    o1 28 (.copy 27),
    o2 29 (.copy 0) 6 true,
    o2 30 (.copy 11) 6 true,
    o2 31 (.data (.bin .add) [.t 30, .c (.int .i64 (1))]) 6 true,
    o2 32 (.index 29 (.t 31)) 6 true,
    o2 33 (.load 29 [(0, 1)] 0 (.t 32) 1 false) 6 true,
    o2 34 (.copy 2) 6 true,
    o2 35 (.data (.bin .eql) [.t 33, .t 34]) 6 true,
    ⟨false, [], [], .pick 28 (.t 35) (.c (.bool false)), [36], (some 36), none⟩,
    o1 37 (.copy 36),
    o2 38 (.copy 0) 15 false,
    o2 39 (.copy 11) 15 false,
    o2 40 (.index 38 (.t 39)) 15 false,
    o2 41 (.load 38 [(0, 1)] 0 (.t 40) 1 false) 15 false,
    o2 42 (.copy 2) 15 false,
    o2 43 (.data (.bin .eql) [.t 41, .t 42]) 15 false,
    o2 44 (.copy 43) 15 false,
    o2 45 (.copy 0) 22 true,
    o2 46 (.copy 11) 22 true,
    o2 47 (.data (.bin .add) [.t 46, .c (.int .i64 (1))]) 22 true,
    o2 48 (.index 45 (.t 47)) 22 true,
    o2 49 (.load 45 [(0, 1)] 0 (.t 48) 1 false) 22 true,
    o2 50 (.copy 1) 22 true,
    o2 51 (.data (.bin .eql) [.t 49, .t 50]) 22 true,
    ⟨false, [], [], .pick 44 (.t 51) (.c (.bool false)), [52], (some 52), some (15, false)⟩,
    ⟨false, [], [], .pick 37 (.c (.bool true)) (.t 52), [53], (some 53), none⟩]))
  (.cond (.t 53)
   (.seq (.join [⟨9, [.i .i64], false⟩] 126100789566374400 none (.seq (.rg [o1 54 (.copy 9),
     o1 55 (.data (.bin .lss) [.t 54, .c (.int .i64 (0))])])
   (.cond (.t 55)
    (.rg [o1 56 (.copy 11),
      o1 9 (.copy 56)])
    .skip)))
   (.rg [o1 57 (.copy 11),
     o1 10 (.copy 57)]))
   .skip))))
  (.rg [o1 20 (.copy 11),
    o1 21 (.data (.bin .add) [.t 20, .c (.int .i64 (1))]),
    o1 11 (.copy 21)])))))))
 (.seq (.seq (.rg [o1 58 (.copy 9),
   o1 59 (.data (.bin .lss) [.t 58, .c (.int .i64 (0))])])
 (.cond (.t 59)
  (.seq (.rg [o1 6 (.lit [.sl [.i .i64]] [.slice none 0 0]),
    o1 7 (.lit [.sl [.i .i64]] [.slice none 0 0]),
    o1 8 (.lit [.b] [.bool false])])
  .ret)
  .skip))
 (.seq (.rg [o1 60 (.copy 0),
   o1 61 (.copy 9),
   o1 65 (.copy 0),
   o1 66 (.copy 10),
   o1 70 (.copy 0),
   o1 71 (.copy 9),
   o1 73 (.copy 10),
   o1 62 (.data (.bin .add) [.t 61, .c (.int .i64 (1))]),
   o1 63 (.res 60 none (some (.t 62))),
   o3 64 74 [.t 63],
   o1 67 (.data (.bin .add) [.t 66, .c (.int .i64 (2))]),
   o1 68 (.res 65 (some (.t 67)) none),
   ⟨false, [], [], .det 2 (.app (some 64) 68), [69, 64], (some 69), none⟩,
   o1 72 (.data (.bin .add) [.t 71, .c (.int .i64 (1))]),
   o1 74 (.data (.bin .add) [.t 73, .c (.int .i64 (1))]),
   o1 75 (.res 70 (some (.t 72)) (some (.t 74))),
   o3 76 74 [.t 75],
   ⟨false, [], [], .det 2 (.copy 69), [6, 69], (some 6), none⟩,
   ⟨false, [], [], .det 2 (.copy 76), [7, 76], (some 7), none⟩,
   o1 8 (.lit [.b] [.bool true])])
 .ret))))))
def s_iSplitTour : Sig := ⟨[.rd false [.sl (.own none) [.d]], .rd false [.d], .rd false [.d]], (.tup [(false, 1), (false, 1), (false, 1)] [.sl (.own none) [.d], .sl (.own none) [.d], .d])⟩
noncomputable def E_iSplitTour : TEnv := envOf [(46, p_iTourOk), (74, p_icopyInts)]
noncomputable def f_iSplitTour (n : Nat) : List (Int) × Int × Int → Option ((List (Int) × List (Int) × Bool) × Unit) := runFn n E_iSplitTour c_iSplitTour [[.sl [.i .i64]], [.i .i64], [.i .i64]] [.sl [.i .i64], .sl [.i .i64], .b] [] [6, 7, 8] .no
noncomputable def g_iSplitTour := f_iSplitTour BIG
noncomputable def p_iSplitTour : TSp := ⟨s_iSplitTour, [[.sl [.i .i64]], [.i .i64], [.i .i64]], [.sl [.i .i64], .sl [.i .i64], .b], [], Ou.j .no, g_iSplitTour⟩
theorem k_iSplitTour : chkW PG E_iSplitTour 48 s_iSplitTour (c_iSplitTour.ht 77) .no = some (c_iSplitTour.wc E_iSplitTour, [6, 7, 8]) := by kernel_rfl
theorem ok_iSplitTour : p_iSplitTour.Ok PG 48 := mkOk (env_cons ok_iTourOk (env_cons ok_icopyInts (env_nil PG))) k_iSplitTour (by kernel_rfl)
theorem e_iSplitTour (n : Nat) (a0 : List (Int)) (a1 : Int) (a2 : Int) : f_iSplitTour n (a0, a1, a2) =
  Option.bind (g_iTourOk a0) fun r0 =>
  bif !r0.1 then
   some (([], [], false), ())
  else Option.bind (loopT n (X := Int × Int × Int) (B := Int × Int) (fun self2 x1 =>
    bif decide ((IntKind.wrap .i64 (x1.2.2 + (1 : Int))) < (a0.length : Int)) then
     Option.bind (Option.bind (bnd a0.length x1.2.2 fun n3 =>
       Option.bind a0[n3]? fun y4 =>
       bif decide (y4 = a1) then
        bnd a0.length (IntKind.wrap .i64 (x1.2.2 + (1 : Int))) fun n5 =>
        Option.bind a0[n5]? fun y6 =>
        bif decide (y6 = a2) then
         some true
        else bnd a0.length x1.2.2 fun n7 =>
        Option.bind a0[n7]? fun y8 =>
        bif decide (y8 = a2) then
         bnd a0.length (IntKind.wrap .i64 (x1.2.2 + (1 : Int))) fun n9 =>
         Option.bind a0[n9]? fun y10 =>
         some (decide (y10 = a1))
        else some false
       else bnd a0.length x1.2.2 fun n11 =>
       Option.bind a0[n11]? fun y12 =>
       bif decide (y12 = a2) then
        bnd a0.length (IntKind.wrap .i64 (x1.2.2 + (1 : Int))) fun n13 =>
        Option.bind a0[n13]? fun y14 =>
        some (decide (y14 = a1))
       else some false : Option (Bool)) fun x15 =>
      bif x15 then
       Option.bind (bif decide (x1.1 < (0 : Int)) then
         some x1.2.2
        else some x1.1 : Option (Int)) fun x16 =>
       some (x16, x1.2.2)
      else some (x1.1, x1.2.1) : Option (Int × Int)) fun x17 =>
     self2 (x17.1, x17.2, IntKind.wrap .i64 (x1.2.2 + (1 : Int)))
    else some (x1.1, x1.2.1)) ((-1 : Int), (-1 : Int), (0 : Int)) : Option (Int × Int)) fun x18 =>
  bif decide (x18.1 < (0 : Int)) then
   some (([], [], false), ())
  else bif decide (0 ≤ (IntKind.wrap .i64 (x18.1 + (1 : Int)))) then
   bif decide (0 ≤ (Int.toNat (IntKind.wrap .i64 (x18.1 + (1 : Int)))) ∧ (Int.toNat (IntKind.wrap .i64 (x18.1 + (1 : Int)))) ≤ a0.length) then
    Option.bind (g_icopyInts (List.take ((Int.toNat (IntKind.wrap .i64 (x18.1 + (1 : Int)))) - 0) (List.drop 0 a0))) fun r19 =>
    bif decide (0 ≤ (IntKind.wrap .i64 (x18.2 + (2 : Int)))) then
     bif decide ((Int.toNat (IntKind.wrap .i64 (x18.2 + (2 : Int)))) ≤ a0.length ∧ a0.length ≤ a0.length) then
      bif decide (r19.1.length + (List.take (a0.length - (Int.toNat (IntKind.wrap .i64 (x18.2 + (2 : Int))))) (List.drop (Int.toNat (IntKind.wrap .i64 (x18.2 + (2 : Int)))) a0)).length ≤ 4294967296) then
       bif decide (0 ≤ (IntKind.wrap .i64 (x18.1 + (1 : Int)))) then
        bif decide (0 ≤ (IntKind.wrap .i64 (x18.2 + (1 : Int)))) then
         bif decide ((Int.toNat (IntKind.wrap .i64 (x18.1 + (1 : Int)))) ≤ (Int.toNat (IntKind.wrap .i64 (x18.2 + (1 : Int)))) ∧ (Int.toNat (IntKind.wrap .i64 (x18.2 + (1 : Int)))) ≤ a0.length) then
          Option.bind (g_icopyInts (List.take ((Int.toNat (IntKind.wrap .i64 (x18.2 + (1 : Int)))) - (Int.toNat (IntKind.wrap .i64 (x18.1 + (1 : Int))))) (List.drop (Int.toNat (IntKind.wrap .i64 (x18.1 + (1 : Int)))) a0))) fun r20 =>
          some ((r19.1 ++ (List.take (a0.length - (Int.toNat (IntKind.wrap .i64 (x18.2 + (2 : Int))))) (List.drop (Int.toNat (IntKind.wrap .i64 (x18.2 + (2 : Int)))) a0)), r20.1, true), ())
         else none
        else none
       else none
      else none
     else none
    else none
   else none
  else none := by kernel_rfl
/- impl.Cut -/
def c_iCut : TC :=
 (.seq (.rg [o1 2 (.a (.t 0)),
   o1 3 (.a (.t 1)),
   ⟨false, [], [], .det 2 (.a (.c [.i .i64, .sl [.sl [.i .i64]]] [.int .i64 (0), .slice none 0 0])), [4, 1000000005], (some 4), none⟩,
   o1 5 (.lit [.b] [.bool false])])
 (.seq (.seq (.join [⟨20, [.b], false⟩] 2095104 none (.rg [o1 11 (.load 2 [] 0 .nil 2 false),
   o3 12 14 [.t 11],
   o1 13 (.data .not [.t 12]),
   o1 14 (.copy 13),
   o2 15 (.idx .nil) 3 false,
   o2 16 (.load 2 [] 0 (.t 15) 1 false) 3 false,
   o2 17 (.load 3 [] 0 .nil 2 false) 3 false,
   ⟨false, [], [], .call 1 42 [.t 16, .t 17] .no, [18], (some 18), some (3, false)⟩,
   o2 19 (.data .not [.t 18]) 3 false,
   ⟨false, [], [], .pick 14 (.c (.bool true)) (.t 19), [20], (some 20), none⟩]))
 (.cond (.t 20)
  (.seq (.rg [o1 21 (.build [.i .i64, .sl [.sl [.i .i64]]] []),
    ⟨false, [21], [], .det 2 (.store 4 [] 0 .nil (.t 21)), [4, 21, 21], none, none⟩,
    o1 5 (.lit [.b] [.bool false])])
  .ret)
  .skip))
 (.seq (.rg [o1 22 (.load 2 [] 0 .nil 2 false),
   o1 23 (.idx .nil),
   o1 24 (.load 3 [] 0 (.t 23) 1 false),
   o3 25 12 [.t 22, .t 24],
   o1 6 (.copy 25)])
 (.seq (.rg [o1 29 (.copy 6),
   o1 27 (.idx .nil),
   o1 28 (.load 2 [] 1 (.t 27) 1 false),
   o1 30 (.index 28 (.t 29)),
   o1 31 (.load 28 [(0, 1)] 0 (.t 30) 1 false),
   o1 32 (.idx .nil),
   o1 33 (.load 3 [] 0 (.t 32) 1 false),
   o1 34 (.idx .nil),
   o1 35 (.load 3 [] 1 (.t 34) 1 false),
   o3 36 48 [.t 31, .t 33, .t 35],
   ⟨false, [], [], .det 2 (.copy 36), [26, 36], (some 26), none⟩,
   ⟨false, [], [], .det 2 (.ext 26 0 1), [37, 26], (some 37), none⟩,
   ⟨false, [], [], .det 2 (.ext 26 1 1), [38, 26], (some 38), none⟩,
   o1 39 (.ext 26 2 1),
   ⟨false, [], [], .det 2 (.copy 37), [7, 37], (some 7), none⟩,
   ⟨false, [], [], .det 2 (.copy 38), [8, 38], (some 8), none⟩,
   o1 9 (.copy 39)])
 (.seq (.seq (.rg [o1 40 (.copy 9),
   o1 41 (.data .not [.t 40])])
 (.cond (.t 41)
  (.seq (.rg [o1 42 (.build [.i .i64, .sl [.sl [.i .i64]]] []),
    ⟨false, [42], [], .det 2 (.store 4 [] 0 .nil (.t 42)), [4, 42, 42], none, none⟩,
    o1 5 (.lit [.b] [.bool false])])
  .ret)
  .skip))
 (.seq (.rg [o1 43 (.load 2 [] 0 .nil 2 false),
   o1 44 (.copy 6),
   o1 45 (.copy 6),
   o3 46 44 [.t 43, .t 44, .t 45],
   ⟨false, [], [], .det 2 (.a (.c [.i .i64, .sl [.sl [.i .i64]]] [.int .i64 (0), .slice none 0 0])), [10, 1000000011], (some 10), none⟩,
   ⟨false, [46], [], .det 2 (.store 10 [] 0 .nil (.t 46)), [10, 46, 46], none, none⟩])
 (.seq (.rg [⟨false, [], [3000010001], .det 1 (.idx .nil), [47, 10], (some 47), none⟩,
   o1 48 (.load 10 [] 1 (.t 47) 1 false),
   ⟨false, [7], [], .det 1 (.copy 7), [49, 7], (some 49), none⟩,
   o3 50 45 [.t 48, .t 49],
   ⟨false, [8], [], .det 1 (.copy 8), [51, 8], (some 51), none⟩,
   ⟨false, [50, 50], [], .call 1 45 [.t 50, .t 51] .no, [52, 50, 50], (some 52), none⟩,
   o1 53 (.idx .nil),
   o4 2 [10, 52] (.store 10 [] 1 (.t 53) (.t 52))])
 (.seq (.rg [o1 54 (.load 10 [] 0 .nil 2 true),
   ⟨false, [54], [], .det 2 (.store 4 [] 0 .nil (.t 54)), [4, 54, 54, 10], none, none⟩,
   o1 5 (.lit [.b] [.bool true])])
 .ret))))))))
def s_iCut : Sig := ⟨[.rd true [.d, .sl (.own none) [.sl (.own none) [.d]]], .rd true [.d, .d]], (.tup [(true, 2), (false, 1)] [.d, .sl (.own none) [.sl (.ro []) [.d]], .d])⟩
noncomputable def E_iCut : TEnv := envOf [(14, p_iForestOk), (42, p_iEdgeOk), (12, p_iTreeOf), (48, p_iSplitTour), (44, p_iwithout), (45, p_iputTour)]
noncomputable def f_iCut (n : Nat) : (Int × List (List (Int))) × (Int × Int) → Option ((Int × List (List (Int)) × Bool) × Unit) := runFn n E_iCut c_iCut [[.i .i64, .sl [.sl [.i .i64]]], [.i .i64, .i .i64]] [.i .i64, .sl [.sl [.i .i64]], .b] [] [4, 5] .no
noncomputable def g_iCut := f_iCut BIG
noncomputable def p_iCut : TSp := ⟨s_iCut, [[.i .i64, .sl [.sl [.i .i64]]], [.i .i64, .i .i64]], [.i .i64, .sl [.sl [.i .i64]], .b], [], Ou.j .no, g_iCut⟩
theorem k_iCut : chkW PG E_iCut 15 s_iCut (c_iCut.ht 55) .no = some (c_iCut.wc E_iCut, [4, 5]) := by kernel_rfl
theorem ok_iCut : p_iCut.Ok PG 15 := mkOk (env_cons ok_iForestOk (env_cons ok_iEdgeOk (env_cons ok_iTreeOf (env_cons ok_iSplitTour (env_cons ok_iwithout (env_cons ok_iputTour (env_nil PG))))))) k_iCut (by kernel_rfl)
theorem e_iCut (n : Nat) (a0 : Int × List ((List (Int)))) (a1 : Int × Int) : f_iCut n (a0, a1) =
  Option.bind (Option.bind (g_iForestOk a0) fun r0 =>
   bif !r0.1 then
    some true
   else Option.bind (g_iEdgeOk (a0.1, a1)) fun r1 =>
   some !r1.1 : Option (Bool)) fun x2 =>
  bif x2 then
   some (((0 : Int), [], false), ())
  else Option.bind (g_iTreeOf (a0, a1.1)) fun r3 =>
  bnd a0.2.length r3.1 fun n4 =>
  Option.bind a0.2[n4]? fun y5 =>
  Option.bind (g_iSplitTour (y5, a1.1, a1.2)) fun r6 =>
  bif !r6.1.2.2 then
   some (((0 : Int), [], false), ())
  else Option.bind (g_iwithout (a0, r3.1, r3.1)) fun r7 =>
  Option.bind (g_iputTour (r7.1.2, r6.1.1)) fun r8 =>
  Option.bind (g_iputTour (r8.1, r6.1.2.1)) fun r9 =>
  some ((r7.1.1, r9.1, true), ()) := by kernel_rfl
/- impl.SizeOf -/
def c_iSizeOf : TC :=
 (.seq (.rg [o1 2 (.a (.t 0)),
   o1 4 (.lit [.i .i64] [.int .i64 (0)])])
 (.seq (.rg [o1 6 (.load 2 [] 0 .nil 2 false),
   o1 7 (.copy 1),
   o3 8 12 [.t 6, .t 7],
   o1 5 (.copy 8)])
 (.seq (.seq (.rg [o1 9 (.copy 5),
   o1 10 (.data (.bin .lss) [.t 9, .c (.int .i64 (0))])])
 (.cond (.t 10)
  (.seq (.rg [o1 4 (.lit [.i .i64] [.int .i64 (0)])])
  .ret)
  .skip))
 (.seq (.rg [o1 11 (.idx .nil),
   o1 12 (.load 2 [] 1 (.t 11) 1 false),
   o1 13 (.copy 5),
   o1 14 (.index 12 (.t 13)),
   o1 15 (.load 12 [(0, 1)] 0 (.t 14) 1 false),
   o3 16 47 [.t 15],
   o1 17 (.len 16),
   o1 4 (.copy 17)])
 .ret))))
def s_iSizeOf : Sig := ⟨[.rd true [.d, .sl (.own none) [.sl (.own none) [.d]]], .rd false [.d]], (.one false [.d])⟩
noncomputable def E_iSizeOf : TEnv := envOf [(12, p_iTreeOf), (47, p_iVertsOf)]
noncomputable def f_iSizeOf (n : Nat) : (Int × List (List (Int))) × Int → Option ((Int) × Unit) := runFn n E_iSizeOf c_iSizeOf [[.i .i64, .sl [.sl [.i .i64]]], [.i .i64]] [.i .i64] [] [4] .no
noncomputable def g_iSizeOf := f_iSizeOf BIG
noncomputable def p_iSizeOf : TSp := ⟨s_iSizeOf, [[.i .i64, .sl [.sl [.i .i64]]], [.i .i64]], [.i .i64], [], Ou.j .no, g_iSizeOf⟩
theorem k_iSizeOf : chkW PG E_iSizeOf 16 s_iSizeOf (c_iSizeOf.ht 18) .no = some (c_iSizeOf.wc E_iSizeOf, [4]) := by kernel_rfl
theorem ok_iSizeOf : p_iSizeOf.Ok PG 16 := mkOk (env_cons ok_iTreeOf (env_cons ok_iVertsOf (env_nil PG))) k_iSizeOf (by kernel_rfl)
theorem e_iSizeOf (n : Nat) (a0 : Int × List ((List (Int)))) (a1 : Int) : f_iSizeOf n (a0, a1) =
  Option.bind (g_iTreeOf (a0, a1)) fun r0 =>
  bif decide (r0.1 < (0 : Int)) then
   some ((0 : Int), ())
  else bnd a0.2.length r0.1 fun n1 =>
  Option.bind a0.2[n1]? fun y2 =>
  Option.bind (g_iVertsOf y2) fun r3 =>
  some ((r3.1.length : Int), ()) := by kernel_rfl
/- impl.hasEdge -/
def c_ihasEdge : TC :=
 (.seq (.rg [o1 3 (.a (.t 1)),
   o1 4 (.lit [.b] [.bool false])])
 (.seq (.join [] 131024 (some [⟨4, [.b], false⟩]) (.seq (.rg [o1 7 (.copy 0),
   o1 8 (.len 7),
   o1 9 (.lit [.i .i64] [.int .i64 (0)])])
 (.block 0 (.loop [⟨9, [.i .i64], false⟩] 130640
  (.seq (.rg [o1 10 (.data (.bin .lss) [.t 9, .t 8])])
  (.seq (.cond (.t 10)
   .skip
   (.exit 0))
  (.seq (.block 1 (.seq (.rg [o1 11 (.index 7 (.t 9)),
    o1 12 (.load 7 [(0, 2)] 0 (.t 11) 2 false),
    ⟨false, [], [], .det 2 (.a (.c [.i .i64, .i .i64] [.int .i64 (0), .int .i64 (0)])), [6, 1000000007], (some 6), none⟩,
    o4 1 [6] (.store 6 [] 0 .nil (.t 12))])
  (.seq (.rg [o1 13 (.load 6 [] 0 .nil 2 false),
    o1 14 (.load 3 [] 0 .nil 2 false),
    o1 15 (.eqA [.i, .i] (.t 13) (.t 14) false)])
  (.cond (.t 15)
   (.seq (.rg [o1 4 (.lit [.b] [.bool true])])
   .ret)
   .skip))))
  (.rg [o1 16 (.data (.bin .add) [.t 9, .c (.int .i64 (1))]),
    o1 9 (.copy 16)]))))))))
 (.seq (.rg [o1 4 (.lit [.b] [.bool false])])
 .ret)))
def s_ihasEdge : Sig := ⟨[.rd false [.sl (.own none) [.d, .d]], .rd true [.d, .d]], (.one false [.d])⟩
noncomputable def E_ihasEdge : TEnv := envOf []
noncomputable def f_ihasEdge (n : Nat) : (List (Int × Int)) × (Int × Int) → Option ((Bool) × Unit) := runFn n E_ihasEdge c_ihasEdge [[.sl [.i .i64, .i .i64]], [.i .i64, .i .i64]] [.b] [] [4] .no
noncomputable def g_ihasEdge := f_ihasEdge BIG
noncomputable def p_ihasEdge : TSp := ⟨s_ihasEdge, [[.sl [.i .i64, .i .i64]], [.i .i64, .i .i64]], [.b], [], Ou.j .no, g_ihasEdge⟩
theorem k_ihasEdge : chkW PG E_ihasEdge 49 s_ihasEdge (c_ihasEdge.ht 17) .no = some (c_ihasEdge.wc E_ihasEdge, [4]) := by kernel_rfl
theorem ok_ihasEdge : p_ihasEdge.Ok PG 49 := mkOk (env_nil PG) k_ihasEdge (by kernel_rfl)
theorem e_ihasEdge (n : Nat) (a0 : List (Int × Int)) (a1 : Int × Int) : f_ihasEdge n (a0, a1) =
  Option.bind (loopT n (X := Int) (B := (Unit) ⊕ (Bool)) (fun self1 x0 =>
    bif decide (x0 < (a0.length : Int)) then
     bnd a0.length x0 fun n2 =>
     Option.bind a0[n2]? fun y3 =>
     bif (decide (y3.1 = a1.1) && (decide (y3.2 = a1.2) && true)) then
      some (Sum.inr true)
     else self1 (IntKind.wrap .i64 (x0 + (1 : Int)))
    else some (Sum.inl ())) (0 : Int) : Option ((Unit) ⊕ (Bool))) fun y => match y with
  | .inl x4 =>
   some (false, ())
  | .inr x4 =>
   some (x4, ()) := by kernel_rfl
/- impl.ahead -/
def c_iahead : TC :=
 (.seq (.rg [o1 2 (.a (.t 0)),
   o1 3 (.a (.t 1)),
   o1 4 (.lit [.b] [.bool false])])
 (.seq (.join [⟨4, [.b], false⟩] 16777200 none (.rg [o1 5 (.idx .nil),
   o1 6 (.load 2 [] 0 (.t 5) 1 false),
   o1 7 (.idx .nil),
   o1 8 (.load 3 [] 0 (.t 7) 1 false),
   o1 9 (.data (.bin .lss) [.t 6, .t 8]),
   o1 10 (.copy 9),
   o2 11 (.idx .nil) 5 false,
   o2 12 (.load 2 [] 0 (.t 11) 1 false) 5 false,
   o2 13 (.idx .nil) 5 false,
   o2 14 (.load 3 [] 0 (.t 13) 1 false) 5 false,
   o2 15 (.data (.bin .eql) [.t 12, .t 14]) 5 false,
   o2 16 (.copy 15) 5 false,
   o2 17 (.idx .nil) 11 true,
   o2 18 (.load 2 [] 1 (.t 17) 1 false) 11 true,
   o2 19 (.idx .nil) 11 true,
   o2 20 (.load 3 [] 1 (.t 19) 1 false) 11 true,
   o2 21 (.data (.bin .lss) [.t 18, .t 20]) 11 true,
   ⟨false, [], [], .pick 16 (.t 21) (.c (.bool false)), [22], (some 22), some (5, false)⟩,
   ⟨false, [], [], .pick 10 (.c (.bool true)) (.t 22), [23], (some 23), none⟩,
   o1 4 (.copy 23)]))
 .ret))
def s_iahead : Sig := ⟨[.rd true [.d, .d], .rd true [.d, .d]], (.one false [.d])⟩
noncomputable def E_iahead : TEnv := envOf []
noncomputable def f_iahead (n : Nat) : (Int × Int) × (Int × Int) → Option ((Bool) × Unit) := runFn n E_iahead c_iahead [[.i .i64, .i .i64], [.i .i64, .i .i64]] [.b] [] [4] .no
noncomputable def g_iahead := f_iahead BIG
noncomputable def p_iahead : TSp := ⟨s_iahead, [[.i .i64, .i .i64], [.i .i64, .i .i64]], [.b], [], Ou.j .no, g_iahead⟩
theorem k_iahead : chkW PG E_iahead 76 s_iahead (c_iahead.ht 24) .no = some (c_iahead.wc E_iahead, [4]) := by kernel_rfl
theorem ok_iahead : p_iahead.Ok PG 76 := mkOk (env_nil PG) k_iahead (by kernel_rfl)
theorem e_iahead (n : Nat) (a0 : Int × Int) (a1 : Int × Int) : f_iahead n (a0, a1) =
  Option.bind (bif decide (a0.1 < a1.1) then
    some true
   else bif decide (a0.1 = a1.1) then
    some (decide (a0.2 < a1.2))
   else some false : Option (Bool)) fun x0 =>
  some (x0, ()) := by kernel_rfl
/- impl.withEdge -/
def c_iwithEdge : TC :=
 (.seq (.rg [o1 3 (.a (.t 1)),
   o1 4 (.lit [.sl [.i .i64, .i .i64]] [.slice none 0 0])])
 (.seq (.rg [o1 5 (.lit [.i .i64] [.int .i64 (0)])])
 (.seq (.join [⟨5, [.i .i64], false⟩] 1048544 none (.block 0 (.loop [⟨5, [.i .i64], false⟩] 1048544
  (.seq (.seq (.join [⟨17, [.b], false⟩] 262080 none (.rg [o1 6 (.copy 5),
    o1 7 (.copy 0),
    o1 8 (.len 7),
    o1 9 (.data (.bin .lss) [.t 6, .t 8]),
    o1 10 (.copy 9),
    o2 11 (.copy 0) 4 true,
    o2 12 (.copy 5) 4 true,
    o2 13 (.index 11 (.t 12)) 4 true,
    o2 14 (.load 11 [(0, 2)] 0 (.t 13) 2 false) 4 true,
    o2 15 (.load 3 [] 0 .nil 2 false) 4 true,
    ⟨false, [], [], .call 1 76 [.t 14, .t 15] .no, [16], (some 16), some (4, true)⟩,
    ⟨false, [], [], .pick 10 (.t 16) (.c (.bool false)), [17], (some 17), none⟩]))
  (.cond (.t 17)
   .skip
   (.exit 0)))
  (.block 1 (.rg [o1 18 (.copy 5),
    o1 19 (.data (.bin .add) [.t 18, .c (.int .i64 (1))]),
    o1 5 (.copy 19)]))))))
 (.seq (.rg [o1 20 (.copy 0),
   o1 21 (.copy 5),
   o1 27 (.copy 0),
   o1 28 (.copy 5),
   o1 22 (.res 20 none (some (.t 21))),
   o1 23 (.app none 22),
   o1 24 (.load 3 [] 0 .nil 2 false),
   o1 25 (.sli [.i .i64, .i .i64] [.t 24]),
   ⟨false, [], [], .det 2 (.app (some 23) 25), [26, 23], (some 26), none⟩,
   o1 29 (.res 27 (some (.t 28)) none),
   ⟨false, [], [], .det 2 (.app (some 26) 29), [30, 26], (some 30), none⟩,
   ⟨false, [], [], .det 2 (.copy 30), [4, 30], (some 4), none⟩])
 .ret))))
def s_iwithEdge : Sig := ⟨[.rd false [.sl (.own none) [.d, .d]], .rd true [.d, .d]], (.one false [.sl (.own none) [.d, .d]])⟩
noncomputable def E_iwithEdge : TEnv := envOf [(76, p_iahead)]
noncomputable def f_iwithEdge (n : Nat) : (List (Int × Int)) × (Int × Int) → Option ((List (Int × Int)) × Unit) := runFn n E_iwithEdge c_iwithEdge [[.sl [.i .i64, .i .i64]], [.i .i64, .i .i64]] [.sl [.i .i64, .i .i64]] [] [4] .no
noncomputable def g_iwithEdge := f_iwithEdge BIG
noncomputable def p_iwithEdge : TSp := ⟨s_iwithEdge, [[.sl [.i .i64, .i .i64]], [.i .i64, .i .i64]], [.sl [.i .i64, .i .i64]], [], Ou.j .no, g_iwithEdge⟩
theorem k_iwithEdge : chkW PG E_iwithEdge 50 s_iwithEdge (c_iwithEdge.ht 31) .no = some (c_iwithEdge.wc E_iwithEdge, [4]) := by kernel_rfl
theorem ok_iwithEdge : p_iwithEdge.Ok PG 50 := mkOk (env_cons ok_iahead (env_nil PG)) k_iwithEdge (by kernel_rfl)
theorem e_iwithEdge (n : Nat) (a0 : List (Int × Int)) (a1 : Int × Int) : f_iwithEdge n (a0, a1) =
  Option.bind (loopT n (X := Int) (B := Int) (fun self1 x0 =>
    Option.bind (bif decide (x0 < (a0.length : Int)) then
      bnd a0.length x0 fun n2 =>
      Option.bind a0[n2]? fun y3 =>
      Option.bind (g_iahead (y3, a1)) fun r4 =>
      some r4.1
     else some false : Option (Bool)) fun x5 =>
    bif x5 then
     self1 (IntKind.wrap .i64 (x0 + (1 : Int)))
    else some x0) (0 : Int) : Option (Int)) fun x6 =>
  bif decide (0 ≤ x6) then
   bif decide (0 ≤ (Int.toNat x6) ∧ (Int.toNat x6) ≤ a0.length) then
    bif decide ((List.take ((Int.toNat x6) - 0) (List.drop 0 a0)).length ≤ 4294967296) then
     bif decide ((List.take ((Int.toNat x6) - 0) (List.drop 0 a0)).length + [a1].length ≤ 4294967296) then
      bif decide (0 ≤ x6) then
       bif decide ((Int.toNat x6) ≤ a0.length ∧ a0.length ≤ a0.length) then
        bif decide (((List.take ((Int.toNat x6) - 0) (List.drop 0 a0)) ++ [a1]).length + (List.take (a0.length - (Int.toNat x6)) (List.drop (Int.toNat x6) a0)).length ≤ 4294967296) then
         some (((List.take ((Int.toNat x6) - 0) (List.drop 0 a0)) ++ [a1]) ++ (List.take (a0.length - (Int.toNat x6)) (List.drop (Int.toNat x6) a0)), ())
        else none
       else none
      else none
     else none
    else none
   else none
  else none := by kernel_rfl
/- impl.EdgesOf -/
def c_iEdgesOf : TC :=
 (.seq (.rg [o1 1 (.a (.t 0)),
   o1 2 (.lit [.sl [.i .i64, .i .i64]] [.slice none 0 0])])
 (.seq (.rg [o1 3 (.lit [.sl [.i .i64, .i .i64]] [.slice none 0 0])])
 (.seq (.seq (.rg [o1 8 (.load 1 [] 0 .nil 2 false),
   o3 9 14 [.t 8],
   o1 10 (.data .not [.t 9])])
 (.cond (.t 10)
  (.seq (.rg [⟨false, [], [], .det 2 (.copy 3), [11, 3], (some 11), none⟩,
    ⟨false, [], [], .det 2 (.copy 11), [2, 11], (some 2), none⟩])
  .ret)
  .skip))
 (.seq (.join [⟨3, [.sl [.i .i64, .i .i64]], false⟩] 36028797018960104 none (.seq (.rg [o1 12 (.idx .nil),
   o1 13 (.load 1 [] 1 (.t 12) 1 false),
   o1 14 (.len 13),
   o1 15 (.lit [.i .i64] [.int .i64 (0)])])
 (.block 0 (.loop [⟨3, [.sl [.i .i64, .i .i64]], false⟩, ⟨15, [.i .i64], false⟩] 36028797018931432
  (.seq (.rg [o1 16 (.data (.bin .lss) [.t 15, .t 14])])
  (.seq (.cond (.t 16)
   .skip
   (.exit 0))
  (.seq (.join [⟨3, [.sl [.i .i64, .i .i64]], false⟩] 18014398509351144 none (.block 1 (.seq (.rg [o1 17 (.index 13 (.t 15)),
    o1 18 (.load 13 [(0, 1)] 0 (.t 17) 1 false),
    o1 5 (.copy 18)])
  (.seq (.rg [o1 6 (.lit [.i .i64] [.int .i64 (0)])])
  (.block 2 (.loop [⟨3, [.sl [.i .i64, .i .i64]], false⟩, ⟨6, [.i .i64], false⟩] 18014398508957896
   (.seq (.seq (.rg [o1 19 (.copy 6),
     o1 20 (.data (.bin .add) [.t 19, .c (.int .i64 (1))]),
     o1 21 (.copy 5),
     o1 22 (.len 21),
     o1 23 (.data (.bin .lss) [.t 20, .t 22])])
   (.cond (.t 23)
    .skip
    (.exit 2)))
   (.seq (.join [⟨3, [.sl [.i .i64, .i .i64]], false⟩] 18014398442373256 none (.block 3 (.seq (.rg [o1 26 (.copy 5),
     o1 27 (.copy 6),
     o1 30 (.copy 5),
     o1 31 (.copy 6),
     o1 36 (.copy 5),
     o1 37 (.copy 6),
     o1 40 (.copy 5),
     o1 41 (.copy 6),
     ⟨false, [], [1000000008], .det 1 (.index 26 (.t 27)), [28], (some 28), none⟩,
     ⟨false, [], [1000000008], .det 1 (.load 26 [(0, 1)] 0 (.t 28) 1 false), [29], (some 29), none⟩,
     ⟨false, [], [1000000008], .det 1 (.data (.bin .add) [.t 31, .c (.int .i64 (1))]), [32], (some 32), none⟩,
     ⟨false, [], [1000000008], .det 1 (.index 30 (.t 32)), [33], (some 33), none⟩,
     ⟨false, [], [1000000008], .det 1 (.load 30 [(0, 1)] 0 (.t 33) 1 false), [34], (some 34), none⟩,
     ⟨false, [], [1000000008], .det 1 (.data .min [.t 29, .t 34]), [35], (some 35), none⟩,
     ⟨false, [], [1000000008], .det 1 (.index 36 (.t 37)), [38], (some 38), none⟩,
     ⟨false, [], [1000000008], .det 1 (.load 36 [(0, 1)] 0 (.t 38) 1 false), [39], (some 39), none⟩,
     ⟨false, [], [1000000008], .det 1 (.data (.bin .add) [.t 41, .c (.int .i64 (1))]), [42], (some 42), none⟩,
     ⟨false, [], [1000000008], .det 1 (.index 40 (.t 42)), [43], (some 43), none⟩,
     ⟨false, [], [1000000008], .det 1 (.load 40 [(0, 1)] 0 (.t 43) 1 false), [44], (some 44), none⟩,
     ⟨false, [], [1000000008], .det 1 (.data .max [.t 39, .t 44]), [45], (some 45), none⟩,
     ⟨false, [], [1000000008], .det 1 (.build [.i .i64, .i .i64] [(0, .t 35), (1, .t 45)]), [46], (some 46), none⟩,
     ⟨false, [], [], .det 2 (.a (.c [.i .i64, .i .i64] [.int .i64 (0), .int .i64 (0)])), [7, 1000000008], (some 7), none⟩,
     o4 1 [7] (.store 7 [] 0 .nil (.t 46))])
   (.seq (.rg [⟨true, [], [], .det 1 (.copy 3), [47], (some 47), none⟩,
     o1 48 (.load 7 [] 0 .nil 2 false),
     o3 49 49 [.t 47, .t 48],
     o1 50 (.data .not [.t 49])])
   (.cond (.t 50)
    (.rg [⟨false, [], [], .det 2 (.copy 3), [51, 3, 47], (some 51), none⟩,
      o1 52 (.load 7 [] 0 .nil 2 false),
      o3 53 50 [.t 51, .t 52],
      ⟨false, [], [], .det 2 (.copy 53), [3, 53, 47], (some 3), none⟩])
    .skip)))))
   (.rg [o1 24 (.copy 6),
     o1 25 (.data (.bin .add) [.t 24, .c (.int .i64 (1))]),
     o1 6 (.copy 25)])))))))))
  (.rg [o1 54 (.data (.bin .add) [.t 15, .c (.int .i64 (1))]),
    o1 15 (.copy 54)]))))))))
 (.seq (.rg [⟨false, [], [], .det 2 (.copy 3), [55, 3], (some 55), none⟩,
   ⟨false, [], [], .det 2 (.copy 55), [2, 55], (some 2), none⟩])
 .ret)))))
def s_iEdgesOf : Sig := ⟨[.rd true [.d, .sl (.own none) [.sl (.own none) [.d]]]], (.one false [.sl (.own none) [.d, .d]])⟩
noncomputable def E_iEdgesOf : TEnv := envOf [(14, p_iForestOk), (49, p_ihasEdge), (50, p_iwithEdge)]
noncomputable def f_iEdgesOf (n : Nat) : (Int × List (List (Int))) → Option ((List (Int × Int)) × Unit) := runFn n E_iEdgesOf c_iEdgesOf [[.i .i64, .sl [.sl [.i .i64]]]] [.sl [.i .i64, .i .i64]] [] [2] .no
noncomputable def g_iEdgesOf := f_iEdgesOf BIG
noncomputable def p_iEdgesOf : TSp := ⟨s_iEdgesOf, [[.i .i64, .sl [.sl [.i .i64]]]], [.sl [.i .i64, .i .i64]], [], Ou.j .no, g_iEdgesOf⟩
theorem k_iEdgesOf : chkW PG E_iEdgesOf 17 s_iEdgesOf (c_iEdgesOf.ht 56) .no = some (c_iEdgesOf.wc E_iEdgesOf, [2]) := by kernel_rfl
theorem ok_iEdgesOf : p_iEdgesOf.Ok PG 17 := mkOk (env_cons ok_iForestOk (env_cons ok_ihasEdge (env_cons ok_iwithEdge (env_nil PG)))) k_iEdgesOf (by kernel_rfl)
theorem e_iEdgesOf (n : Nat) (a0 : Int × List ((List (Int)))) : f_iEdgesOf n a0 =
  Option.bind (g_iForestOk a0) fun r0 =>
  bif !r0.1 then
   some ([], ())
  else Option.bind (loopT n (X := (List (Int × Int)) × Int) (B := (List (Int × Int))) (fun self2 x1 =>
    bif decide (x1.2 < (a0.2.length : Int)) then
     Option.bind (bnd a0.2.length x1.2 fun n3 =>
      Option.bind a0.2[n3]? fun y4 =>
      loopT n (X := (List (Int × Int)) × Int) (B := (List (Int × Int))) (fun self6 x5 =>
       bif decide ((IntKind.wrap .i64 (x5.2 + (1 : Int))) < (y4.length : Int)) then
        Option.bind (bnd y4.length x5.2 fun n7 =>
         Option.bind y4[n7]? fun y8 =>
         bnd y4.length (IntKind.wrap .i64 (x5.2 + (1 : Int))) fun n9 =>
         Option.bind y4[n9]? fun y10 =>
         bnd y4.length x5.2 fun n11 =>
         Option.bind y4[n11]? fun y12 =>
         bnd y4.length (IntKind.wrap .i64 (x5.2 + (1 : Int))) fun n13 =>
         Option.bind y4[n13]? fun y14 =>
         Option.bind (g_ihasEdge (x5.1, ((if y10 < y8 then y10 else y8), (if y14 > y12 then y14 else y12)))) fun r15 =>
         bif !r15.1 then
          Option.bind (g_iwithEdge (x5.1, ((if y10 < y8 then y10 else y8), (if y14 > y12 then y14 else y12)))) fun r16 =>
          some r16.1
         else some x5.1 : Option ((List (Int × Int)))) fun x17 =>
        self6 (x17, IntKind.wrap .i64 (x5.2 + (1 : Int)))
       else some x5.1) (x1.1, (0 : Int)) : Option ((List (Int × Int)))) fun x18 =>
     self2 (x18, IntKind.wrap .i64 (x1.2 + (1 : Int)))
    else some x1.1) ([], (0 : Int)) : Option ((List (Int × Int)))) fun x19 =>
  some (x19, ()) := by kernel_rfl
/- laws.has -/
def c_lhas : TC :=
 (.seq (.rg [o1 3 (.a (.t 1)),
   o1 4 (.lit [.b] [.bool false])])
 (.seq (.join [] 262128 (some [⟨4, [.b], false⟩]) (.seq (.rg [o1 5 (.lit [.i .i64] [.int .i64 (0)])])
 (.block 0 (.loop [⟨5, [.i .i64], false⟩] 262128
  (.seq (.seq (.rg [o1 6 (.copy 5),
    o1 7 (.copy 0),
    o1 8 (.len 7),
    o1 9 (.data (.bin .lss) [.t 6, .t 8])])
  (.cond (.t 9)
   .skip
   (.exit 0)))
  (.seq (.block 1 (.seq (.rg [o1 12 (.copy 0),
    o1 13 (.copy 5),
    o1 14 (.index 12 (.t 13)),
    o1 15 (.load 12 [(0, 2)] 0 (.t 14) 2 false),
    o1 16 (.load 3 [] 0 .nil 2 false),
    o1 17 (.eqA [.i, .i] (.t 15) (.t 16) false)])
  (.cond (.t 17)
   (.seq (.rg [o1 4 (.lit [.b] [.bool true])])
   .ret)
   .skip)))
  (.rg [o1 10 (.copy 5),
    o1 11 (.data (.bin .add) [.t 10, .c (.int .i64 (1))]),
    o1 5 (.copy 11)])))))))
 (.seq (.rg [o1 4 (.lit [.b] [.bool false])])
 .ret)))
def s_lhas : Sig := ⟨[.rd false [.sl (.own none) [.d, .d]], .rd true [.d, .d]], (.one false [.d])⟩
noncomputable def E_lhas : TEnv := envOf []
noncomputable def f_lhas (n : Nat) : (List (Int × Int)) × (Int × Int) → Option ((Bool) × Unit) := runFn n E_lhas c_lhas [[.sl [.i .i64, .i .i64]], [.i .i64, .i .i64]] [.b] [] [4] .no
noncomputable def g_lhas := f_lhas BIG
noncomputable def p_lhas : TSp := ⟨s_lhas, [[.sl [.i .i64, .i .i64]], [.i .i64, .i .i64]], [.b], [], Ou.j .no, g_lhas⟩
theorem k_lhas : chkW PG E_lhas 18 s_lhas (c_lhas.ht 18) .no = some (c_lhas.wc E_lhas, [4]) := by kernel_rfl
theorem ok_lhas : p_lhas.Ok PG 18 := mkOk (env_nil PG) k_lhas (by kernel_rfl)
theorem e_lhas (n : Nat) (a0 : List (Int × Int)) (a1 : Int × Int) : f_lhas n (a0, a1) =
  Option.bind (loopT n (X := Int) (B := (Unit) ⊕ (Bool)) (fun self1 x0 =>
    bif decide (x0 < (a0.length : Int)) then
     bnd a0.length x0 fun n2 =>
     Option.bind a0[n2]? fun y3 =>
     bif (decide (y3.1 = a1.1) && (decide (y3.2 = a1.2) && true)) then
      some (Sum.inr true)
     else self1 (IntKind.wrap .i64 (x0 + (1 : Int)))
    else some (Sum.inl ())) (0 : Int) : Option ((Unit) ⊕ (Bool))) fun y => match y with
  | .inl x4 =>
   some (false, ())
  | .inr x4 =>
   some (x4, ()) := by kernel_rfl
/- laws.parts -/
def c_lparts : TC :=
 (.seq (.rg [o1 1 (.a (.t 0)),
   o1 2 (.lit [.sl [.i .i64]] [.slice none 0 0])])
 (.seq (.rg [o1 7 (.idx .nil),
   o1 8 (.load 1 [] 0 (.t 7) 1 false),
   o1 9 (.make (.t 8) [.i .i64]),
   ⟨false, [], [], .det 2 (.copy 9), [3, 9], (some 3), none⟩])
 (.seq (.join [⟨3, [.sl [.i .i64]], false⟩] 35184372087928 none (.seq (.rg [o1 4 (.lit [.i .i64] [.int .i64 (0)])])
 (.block 0 (.loop [⟨3, [.sl [.i .i64]], false⟩, ⟨4, [.i .i64], false⟩] 35184372087928
  (.seq (.seq (.rg [o1 10 (.copy 4),
    o1 11 (.idx .nil),
    o1 12 (.load 1 [] 1 (.t 11) 1 false),
    o1 13 (.len 12),
    o1 14 (.data (.bin .lss) [.t 10, .t 13])])
  (.cond (.t 14)
   .skip
   (.exit 0)))
  (.seq (.join [⟨3, [.sl [.i .i64]], false⟩] 35184371957864 none (.block 1 (.seq (.rg [o1 17 (.idx .nil),
    o1 18 (.load 1 [] 1 (.t 17) 1 false),
    o1 19 (.copy 4),
    o1 20 (.index 18 (.t 19)),
    o1 21 (.load 18 [(0, 1)] 0 (.t 20) 1 false),
    o3 22 51 [.t 21],
    ⟨false, [], [], .det 2 (.copy 22), [5, 22], (some 5), none⟩])
  (.seq (.rg [o1 6 (.lit [.i .i64] [.int .i64 (0)])])
  (.block 2 (.loop [⟨3, [.sl [.i .i64]], false⟩, ⟨6, [.i .i64], false⟩] 35184363700296
   (.seq (.seq (.rg [o1 23 (.copy 6),
     ⟨true, [], [], .det 1 (.copy 5), [24], (some 24), none⟩,
     o1 25 (.len 24),
     o1 26 (.data (.bin .lss) [.t 23, .t 25])])
   (.cond (.t 26)
    .skip
    (.exit 2)))
   (.seq (.join [⟨3, [.sl [.i .i64]], false⟩] 35183835217928 none (.block 3 (.seq (.rg [⟨true, [], [], .det 1 (.copy 5), [29], (some 29), none⟩,
     o1 30 (.copy 6),
     o1 31 (.index 29 (.t 30)),
     o1 32 (.load 5 [(0, 1)] 0 (.t 31) 1 false),
     o1 33 (.idx .nil),
     o1 34 (.load 1 [] 0 (.t 33) 1 false),
     o1 35 (.data (.bin .lss) [.t 32, .t 34])])
   (.cond (.t 35)
    (.rg [⟨true, [], [], .det 1 (.copy 3), [36], (some 36), none⟩,
      ⟨true, [], [], .det 1 (.copy 5), [37], (some 37), none⟩,
      o1 38 (.copy 6),
      ⟨true, [], [], .det 1 (.copy 5), [41], (some 41), none⟩,
      o1 39 (.index 37 (.t 38)),
      o1 40 (.load 5 [(0, 1)] 0 (.t 39) 1 false),
      o1 42 (.index 41 (.c (.int .i64 (0)))),
      o1 43 (.load 5 [(0, 1)] 0 (.t 42) 1 false),
      o1 44 (.index 36 (.t 40)),
      o4 1 [3, 36] (.store 3 [(0, 1)] 0 (.t 44) (.t 43))])
    .skip))))
   (.rg [o1 27 (.copy 6),
     o1 28 (.data (.bin .add) [.t 27, .c (.int .i64 (1))]),
     o1 6 (.copy 28)])))))))))
  (.rg [o1 15 (.copy 4),
    o1 16 (.data (.bin .add) [.t 15, .c (.int .i64 (1))]),
    o1 4 (.copy 16)])))))))
 (.seq (.rg [⟨false, [], [], .det 2 (.copy 3), [45, 3], (some 45), none⟩,
   ⟨false, [], [], .det 2 (.copy 45), [2, 45], (some 2), none⟩])
 .ret))))
def s_lparts : Sig := ⟨[.rd true [.d, .sl (.own none) [.sl (.own none) [.d]]]], (.one false [.sl (.own none) [.d]])⟩
noncomputable def E_lparts : TEnv := envOf [(51, p_sVertsOf)]
noncomputable def f_lparts (n : Nat) : (Int × List (List (Int))) → Option ((List (Int)) × Unit) := runFn n E_lparts c_lparts [[.i .i64, .sl [.sl [.i .i64]]]] [.sl [.i .i64]] [] [2] .no
noncomputable def g_lparts := f_lparts BIG
noncomputable def p_lparts : TSp := ⟨s_lparts, [[.i .i64, .sl [.sl [.i .i64]]]], [.sl [.i .i64]], [], Ou.j .no, g_lparts⟩
theorem k_lparts : chkW PG E_lparts 20 s_lparts (c_lparts.ht 46) .no = some (c_lparts.wc E_lparts, [2]) := by kernel_rfl
theorem ok_lparts : p_lparts.Ok PG 20 := mkOk (env_cons ok_sVertsOf (env_nil PG)) k_lparts (by kernel_rfl)
theorem e_lparts (n : Nat) (a0 : Int × List ((List (Int)))) : f_lparts n a0 =
  bif decide (0 ≤ a0.1) then
   bif decide ((Int.toNat a0.1) ≤ 4294967296) then
    Option.bind (loopT n (X := (List (Int)) × Int) (B := (List (Int))) (fun self1 x0 =>
      bif decide (x0.2 < (a0.2.length : Int)) then
       Option.bind (bnd a0.2.length x0.2 fun n2 =>
        Option.bind a0.2[n2]? fun y3 =>
        Option.bind (g_sVertsOf y3) fun r4 =>
        loopT n (X := (List (Int)) × Int) (B := (List (Int))) (fun self6 x5 =>
         bif decide (x5.2 < (r4.1.length : Int)) then
          Option.bind (bnd r4.1.length x5.2 fun n7 =>
           Option.bind r4.1[n7]? fun y8 =>
           bif decide (y8 < a0.1) then
            bnd r4.1.length x5.2 fun n9 =>
            Option.bind r4.1[n9]? fun y10 =>
            bnd r4.1.length (0 : Int) fun n11 =>
            Option.bind r4.1[n11]? fun y12 =>
            bnd x5.1.length y10 fun n13 =>
            Option.bind x5.1[n13]? fun y14 =>
            some (x5.1.set n13 y12)
           else some x5.1 : Option ((List (Int)))) fun x15 =>
          self6 (x15, IntKind.wrap .i64 (x5.2 + (1 : Int)))
         else some x5.1) (x0.1, (0 : Int)) : Option ((List (Int)))) fun x16 =>
       self1 (x16, IntKind.wrap .i64 (x0.2 + (1 : Int)))
      else some x0.1) (List.replicate (Int.toNat a0.1) (0 : Int), (0 : Int)) : Option ((List (Int)))) fun x17 =>
    some (x17, ())
   else none
  else none := by kernel_rfl
/- laws.sameInts -/
def c_lsameInts : TC :=
 (.seq (.rg [o1 4 (.lit [.b] [.bool false])])
 (.seq (.seq (.rg [o1 6 (.copy 0),
   o1 7 (.len 6),
   o1 8 (.copy 1),
   o1 9 (.len 8),
   o1 10 (.data (.bin .neq) [.t 7, .t 9])])
 (.cond (.t 10)
  (.seq (.rg [o1 4 (.lit [.b] [.bool false])])
  .ret)
  .skip))
 (.seq (.join [] 67106864 (some [⟨4, [.b], false⟩]) (.seq (.rg [o1 5 (.lit [.i .i64] [.int .i64 (0)])])
 (.block 0 (.loop [⟨5, [.i .i64], false⟩] 67106864
  (.seq (.seq (.rg [o1 11 (.copy 5),
    o1 12 (.copy 0),
    o1 13 (.len 12),
    o1 14 (.data (.bin .lss) [.t 11, .t 13])])
  (.cond (.t 14)
   .skip
   (.exit 0)))
  (.seq (.block 1 (.seq (.rg [o1 17 (.copy 0),
    o1 18 (.copy 5),
    o1 21 (.copy 1),
    o1 22 (.copy 5),
    o1 19 (.index 17 (.t 18)),
    o1 20 (.load 17 [(0, 1)] 0 (.t 19) 1 false),
    o1 23 (.index 21 (.t 22)),
    o1 24 (.load 21 [(0, 1)] 0 (.t 23) 1 false),
    o1 25 (.data (.bin .neq) [.t 20, .t 24])])
  (.cond (.t 25)
   (.seq (.rg [o1 4 (.lit [.b] [.bool false])])
   .ret)
   .skip)))
  (.rg [o1 15 (.copy 5),
    o1 16 (.data (.bin .add) [.t 15, .c (.int .i64 (1))]),
    o1 5 (.copy 16)])))))))
 (.seq (.rg [o1 4 (.lit [.b] [.bool true])])
 .ret))))
def s_lsameInts : Sig := ⟨[.rd false [.sl (.own none) [.d]], .rd false [.sl (.own none) [.d]]], (.one false [.d])⟩
noncomputable def E_lsameInts : TEnv := envOf []
noncomputable def f_lsameInts (n : Nat) : List (Int) × List (Int) → Option ((Bool) × Unit) := runFn n E_lsameInts c_lsameInts [[.sl [.i .i64]], [.sl [.i .i64]]] [.b] [] [4] .no
noncomputable def g_lsameInts := f_lsameInts BIG
noncomputable def p_lsameInts : TSp := ⟨s_lsameInts, [[.sl [.i .i64]], [.sl [.i .i64]]], [.b], [], Ou.j .no, g_lsameInts⟩
theorem k_lsameInts : chkW PG E_lsameInts 19 s_lsameInts (c_lsameInts.ht 26) .no = some (c_lsameInts.wc E_lsameInts, [4]) := by kernel_rfl
theorem ok_lsameInts : p_lsameInts.Ok PG 19 := mkOk (env_nil PG) k_lsameInts (by kernel_rfl)
theorem e_lsameInts (n : Nat) (a0 : List (Int)) (a1 : List (Int)) : f_lsameInts n (a0, a1) =
  bif !decide ((a0.length : Int) = (a1.length : Int)) then
   some (false, ())
  else Option.bind (loopT n (X := Int) (B := (Unit) ⊕ (Bool)) (fun self1 x0 =>
    bif decide (x0 < (a0.length : Int)) then
     bnd a0.length x0 fun n2 =>
     Option.bind a0[n2]? fun y3 =>
     bnd a1.length x0 fun n4 =>
     Option.bind a1[n4]? fun y5 =>
     bif !decide (y3 = y5) then
      some (Sum.inr false)
     else self1 (IntKind.wrap .i64 (x0 + (1 : Int)))
    else some (Sum.inl ())) (0 : Int) : Option ((Unit) ⊕ (Bool))) fun y => match y with
  | .inl x6 =>
   some (true, ())
  | .inr x6 =>
   some (x6, ()) := by kernel_rfl
end Go.Fw
