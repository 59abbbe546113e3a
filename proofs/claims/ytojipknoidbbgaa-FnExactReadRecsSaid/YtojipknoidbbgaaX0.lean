/- The given functions, as what they compute; each is shown to be what the code does. No conditions. -/
import Derived.Test.YtojipknoidbbgaaG5
import Derived.Test.YtojipknoidbbgaaProg
set_option linter.unusedVariables false
set_option linter.unusedSimpArgs false
namespace Go.Fw
noncomputable abbrev PG := Go.Proofs.Try.prog
def o2 (d : Nat) (e : ED) (j : Nat) (b : Bool) : TO := ⟨false, [], [], .det 1 e, [d], some d, some (j, b)⟩
def o3 (d : Nat) (K : FuncId) (gets : List OY) : TO := ⟨false, [], [], .call 1 K gets .no, [d], some d, none⟩
def o4 (n : Nat) (ds : List Nat) (e : ED) : TO := ⟨false, [], [], .det n e, ds, none, none⟩
end Go.Fw
namespace Go.Fw
def c_sl01In : TC :=
 (.seq (.rg [o1 6 (.lit [.b] [.bool false])])
 (.seq (.join [⟨6, [.b], false⟩] 32704 none (.rg [o1 7 (.copy 0),
   o1 8 (.copy 1),
   o1 9 (.data (.bin .geq) [.t 7, .t 8]),
   o1 10 (.copy 9),
   o2 11 (.copy 0) 3 true,
   o2 12 (.copy 2) 3 true,
   o2 13 (.data (.bin .leq) [.t 11, .t 12]) 3 true,
   ⟨false, [], [], .pick 10 (.t 13) (.c (.bool false)), [14], (some 14), none⟩,
   o1 6 (.copy 14)]))
 .ret))
def s_sl01In : Sig := ⟨[.rd false [.d], .rd false [.d], .rd false [.d]], (.one false [.d])⟩
noncomputable def E_sl01In : TEnv := envOf []
noncomputable def f_sl01In (n : Nat) : Int × Int × Int → Option ((Bool) × Unit) := runFn n E_sl01In c_sl01In [[.i .i64], [.i .i64], [.i .i64]] [.b] [] [6] .no
noncomputable def g_sl01In := f_sl01In BIG
noncomputable def p_sl01In : TSp := ⟨s_sl01In, [[.i .i64], [.i .i64], [.i .i64]], [.b], [], Ou.j .no, g_sl01In⟩
theorem k_sl01In : chkW PG E_sl01In 98 s_sl01In (c_sl01In.ht 15) .no = some (c_sl01In.wc E_sl01In, [6]) := by kernel_rfl
theorem ok_sl01In : p_sl01In.Ok PG 98 := mkOk (env_nil PG) k_sl01In (by kernel_rfl)
theorem e_sl01In (n : Nat) (a0 : Int) (a1 : Int) (a2 : Int) : f_sl01In n (a0, a1, a2) =
  Option.bind (bif decide (a1 ≤ a0) then
    some (decide (a0 ≤ a2))
   else some false : Option (Bool)) fun x0 =>
  some (x0, ()) := by kernel_rfl
def c_sl01Var : TC :=
 (.seq (.rg [o1 2 (.lit [.s] [.string ⟨#[]⟩])])
 (.seq (.rg [o1 4 (.sli [.i .u8] []),
   ⟨false, [], [], .det 2 (.copy 4), [3, 4], (some 3), none⟩])
 (.seq (.join [⟨3, [.sl [.i .u8]], false⟩, ⟨0, [.i .i64], false⟩] 65513 none (.block 0 (.loop [⟨3, [.sl [.i .u8]], false⟩, ⟨0, [.i .i64], false⟩] 65513
  (.seq (.seq (.rg [o1 5 (.copy 0),
    o1 6 (.data (.bin .gtr) [.t 5, .c (.int .i64 (127))])])
  (.cond (.t 6)
   .skip
   (.exit 0)))
  (.block 1 (.seq (.rg [⟨false, [], [], .det 2 (.copy 3), [7, 3], (some 7), none⟩,
    o1 8 (.copy 0),
    o1 9 (.data (.bin .rem) [.t 8, .c (.int .i64 (128))]),
    o1 10 (.data (.bin .add) [.t 9, .c (.int .i64 (128))]),
    o1 11 (.data (.conv .u8) [.t 10]),
    o1 12 (.sli [.i .u8] [.t 11]),
    ⟨false, [], [], .det 2 (.app (some 7) 12), [13, 7], (some 13), none⟩,
    ⟨false, [], [], .det 2 (.copy 13), [3, 13], (some 3), none⟩])
  (.rg [o1 14 (.copy 0),
    o1 15 (.data (.bin .quo) [.t 14, .c (.int .i64 (128))]),
    o1 0 (.copy 15)])))))))
 (.seq (.rg [⟨false, [], [], .det 2 (.copy 3), [16, 3], (some 16), none⟩,
   o1 17 (.copy 0),
   o1 18 (.data (.conv .u8) [.t 17]),
   o1 19 (.sli [.i .u8] [.t 18]),
   ⟨false, [], [], .det 2 (.app (some 16) 19), [20, 16], (some 20), none⟩,
   o1 21 (.bytes 20),
   o1 2 (.copy 21)])
 .ret))))
def s_sl01Var : Sig := ⟨[.rd false [.d]], (.one false [.d])⟩
noncomputable def E_sl01Var : TEnv := envOf []
noncomputable def f_sl01Var (n : Nat) : Int → Option ((ByteArray) × Unit) := runFn n E_sl01Var c_sl01Var [[.i .i64]] [.s] [] [2] .no
noncomputable def g_sl01Var := f_sl01Var BIG
noncomputable def p_sl01Var : TSp := ⟨s_sl01Var, [[.i .i64]], [.s], [], Ou.j .no, g_sl01Var⟩
theorem k_sl01Var : chkW PG E_sl01Var 262 s_sl01Var (c_sl01Var.ht 22) .no = some (c_sl01Var.wc E_sl01Var, [2]) := by kernel_rfl
theorem ok_sl01Var : p_sl01Var.Ok PG 262 := mkOk (env_nil PG) k_sl01Var (by kernel_rfl)
theorem e_sl01Var (n : Nat) (a0 : Int) : f_sl01Var n a0 =
  Option.bind (loopT n (X := (List (Int)) × Int) (B := (List (Int)) × Int) (fun self1 x0 =>
    bif decide ((127 : Int) < x0.2) then
     bif decide ((128 : Int) = 0) then
      none
     else bif decide (x0.1.length + ([IntKind.wrap .u8 (IntKind.wrap .i64 ((Int.tmod x0.2 (128 : Int)) + (128 : Int)))]).length ≤ 4294967296) then
      bif decide ((128 : Int) = 0) then
       none
      else self1 (x0.1 ++ ([IntKind.wrap .u8 (IntKind.wrap .i64 ((Int.tmod x0.2 (128 : Int)) + (128 : Int)))]), IntKind.wrap .i64 (Int.tdiv x0.2 (128 : Int)))
     else none
    else some (x0.1, x0.2)) ([], a0) : Option ((List (Int)) × Int)) fun x2 =>
  bif decide (x2.1.length + ([IntKind.wrap .u8 (x2.2)]).length ≤ 4294967296) then
   some (bytesStr (x2.1 ++ ([IntKind.wrap .u8 (x2.2)])), ())
  else none := by kernel_rfl
def c_sReadVar : TC :=
 (.seq (.rg [o1 4 (.lit [.i .i64] [.int .i64 (0)]),
   o1 5 (.lit [.i .i64] [.int .i64 (0)]),
   o1 6 (.lit [.b] [.bool false])])
 (.seq (.seq (.rg [o1 10 (.copy 1),
   o1 11 (.copy 0),
   o1 12 (.data .slen [.t 11]),
   o3 13 98 [.t 10, .c [.i .i64] [.int .i64 (0)], .t 12],
   o1 14 (.data .not [.t 13])])
 (.cond (.t 14)
  (.seq (.rg [o1 4 (.lit [.i .i64] [.int .i64 (0)]),
    o1 5 (.lit [.i .i64] [.int .i64 (0)]),
    o1 6 (.lit [.b] [.bool false])])
  .ret)
  .skip))
 (.seq (.rg [o1 7 (.lit [.i .i64] [.int .i64 (0)])])
 (.seq (.rg [o1 8 (.lit [.i .i64] [.int .i64 (1)])])
 (.seq (.join [] 288230376151679984 (some [⟨4, [.i .i64], false⟩, ⟨5, [.i .i64], false⟩, ⟨6, [.b], false⟩]) (.seq (.rg [o1 15 (.copy 1),
   o1 9 (.copy 15)])
 (.block 0 (.loop [⟨7, [.i .i64], false⟩, ⟨8, [.i .i64], false⟩, ⟨9, [.i .i64], false⟩] 288230376151647216
  (.seq (.seq (.join [⟨25, [.b], false⟩] 67043328 none (.rg [o1 16 (.copy 9),
    o1 17 (.copy 0),
    o1 18 (.data .slen [.t 17]),
    o1 19 (.data (.bin .lss) [.t 16, .t 18]),
    o1 20 (.copy 19),
    o2 21 (.copy 9) 4 true,
    o2 22 (.copy 1) 4 true,
    o2 23 (.data (.bin .add) [.t 22, .c (.int .i64 (5))]) 4 true,
    o2 24 (.data (.bin .lss) [.t 21, .t 23]) 4 true,
    ⟨false, [], [], .pick 20 (.t 24) (.c (.bool false)), [25], (some 25), none⟩]))
  (.cond (.t 25)
   .skip
   (.exit 0)))
  (.seq (.block 1 (.seq (.rg [o1 28 (.copy 7),
    o1 29 (.copy 0),
    o1 30 (.copy 9),
    o1 31 (.data .sidx [.t 29, .t 30]),
    o1 32 (.data (.conv .i64) [.t 31]),
    o1 33 (.data (.bin .rem) [.t 32, .c (.int .i64 (128))]),
    o1 34 (.copy 8),
    o1 35 (.data (.bin .mul) [.t 33, .t 34]),
    o1 36 (.data (.bin .add) [.t 28, .t 35]),
    o1 7 (.copy 36)])
  (.seq (.rg [o1 37 (.copy 8),
    o1 38 (.data (.bin .mul) [.t 37, .c (.int .i64 (128))]),
    o1 8 (.copy 38)])
  (.seq (.rg [o1 39 (.copy 0),
    o1 40 (.copy 9),
    o1 41 (.data .sidx [.t 39, .t 40]),
    o1 42 (.data (.bin .lss) [.t 41, .c (.int .u8 (128))])])
  (.cond (.t 42)
   (.seq (.seq (.join [⟨54, [.b], false⟩] 36020000925941760 none (.rg [o1 43 (.copy 7),
     o1 44 (.data (.bin .gtr) [.t 43, .c (.int .i64 (1000000000))]),
     o1 45 (.copy 44),
     o2 46 (.copy 7) 2 false,
     ⟨false, [], [], .call 1 262 [.t 46] .no, [47], (some 47), some (2, false)⟩,
     o2 48 (.copy 0) 2 false,
     o2 49 (.copy 1) 2 false,
     o2 50 (.copy 9) 2 false,
     o2 51 (.data (.bin .add) [.t 50, .c (.int .i64 (1))]) 2 false,
     o2 52 (.data (.ssl true true) [.t 48, .t 49, .t 51]) 2 false,
     o2 53 (.data (.bin .neq) [.t 47, .t 52]) 2 false,
     ⟨false, [], [], .pick 45 (.c (.bool true)) (.t 53), [54], (some 54), none⟩]))
   (.cond (.t 54)
    (.seq (.rg [o1 4 (.lit [.i .i64] [.int .i64 (0)]),
      o1 5 (.lit [.i .i64] [.int .i64 (0)]),
      o1 6 (.lit [.b] [.bool false])])
    .ret)
    .skip))
   (.seq (.rg [o1 55 (.copy 7),
     o1 56 (.copy 9),
     o1 57 (.data (.bin .add) [.t 56, .c (.int .i64 (1))]),
     o1 4 (.copy 55),
     o1 5 (.copy 57),
     o1 6 (.lit [.b] [.bool true])])
   .ret))
   .skip)))))
  (.rg [o1 26 (.copy 9),
    o1 27 (.data (.bin .add) [.t 26, .c (.int .i64 (1))]),
    o1 9 (.copy 27)])))))))
 (.seq (.rg [o1 4 (.lit [.i .i64] [.int .i64 (0)]),
   o1 5 (.lit [.i .i64] [.int .i64 (0)]),
   o1 6 (.lit [.b] [.bool false])])
 .ret))))))
def s_sReadVar : Sig := ⟨[.rd false [.d], .rd false [.d]], (.tup [(false, 1), (false, 1), (false, 1)] [.d, .d, .d])⟩
noncomputable def E_sReadVar : TEnv := envOf [(98, p_sl01In), (262, p_sl01Var)]
noncomputable def f_sReadVar (n : Nat) : ByteArray × Int → Option ((Int × Int × Bool) × Unit) := runFn n E_sReadVar c_sReadVar [[.s], [.i .i64]] [.i .i64, .i .i64, .b] [] [4, 5, 6] .no
noncomputable def g_sReadVar := f_sReadVar BIG
noncomputable def p_sReadVar : TSp := ⟨s_sReadVar, [[.s], [.i .i64]], [.i .i64, .i .i64, .b], [], Ou.j .no, g_sReadVar⟩
theorem k_sReadVar : chkW PG E_sReadVar 255 s_sReadVar (c_sReadVar.ht 58) .no = some (c_sReadVar.wc E_sReadVar, [4, 5, 6]) := by kernel_rfl
theorem ok_sReadVar : p_sReadVar.Ok PG 255 := mkOk (env_cons ok_sl01In (env_cons ok_sl01Var (env_nil PG))) k_sReadVar (by kernel_rfl)
theorem e_sReadVar (n : Nat) (a0 : ByteArray) (a1 : Int) : f_sReadVar n (a0, a1) =
  Option.bind (g_sl01In (a1, (0 : Int), (a0.size : Int))) fun r0 =>
  bif !r0.1 then
   some (((0 : Int), (0 : Int), false), ())
  else Option.bind (loopT n (X := Int × Int × Int) (B := (Unit) ⊕ (Int × Int × Bool)) (fun self2 x1 =>
    Option.bind (bif decide (x1.2.2 < (a0.size : Int)) then
      some (decide (x1.2.2 < (IntKind.wrap .i64 (a1 + (5 : Int)))))
     else some false : Option (Bool)) fun x3 =>
    bif x3 then
     bnd a0.size x1.2.2 fun n4 => Option.bind a0[n4]? fun b5 =>
     bif decide ((128 : Int) = 0) then
      none
     else bnd a0.size x1.2.2 fun n6 => Option.bind a0[n6]? fun b7 =>
     bif decide ((b7.toNat : Int) < (128 : Int)) then
      Option.bind (bif decide ((1000000000 : Int) < (IntKind.wrap .i64 (x1.1 + (IntKind.wrap .i64 ((Int.tmod (IntKind.wrap .i64 ((b5.toNat : Int))) (128 : Int)) * x1.2.1))))) then
        some true
       else Option.bind (g_sl01Var (IntKind.wrap .i64 (x1.1 + (IntKind.wrap .i64 ((Int.tmod (IntKind.wrap .i64 ((b5.toNat : Int))) (128 : Int)) * x1.2.1))))) fun r8 =>
       bif decide (0 ≤ a1 ∧ a1 ≤ (IntKind.wrap .i64 (x1.2.2 + (1 : Int))) ∧ (IntKind.wrap .i64 (x1.2.2 + (1 : Int))) ≤ a0.size) then
        some (!(r8.1.toList == (a0.extract (Int.toNat a1) (Int.toNat (IntKind.wrap .i64 (x1.2.2 + (1 : Int))))).toList))
       else none : Option (Bool)) fun x9 =>
      bif x9 then
       some (Sum.inr ((0 : Int), (0 : Int), false))
      else some (Sum.inr (IntKind.wrap .i64 (x1.1 + (IntKind.wrap .i64 ((Int.tmod (IntKind.wrap .i64 ((b5.toNat : Int))) (128 : Int)) * x1.2.1))), IntKind.wrap .i64 (x1.2.2 + (1 : Int)), true))
     else self2 (IntKind.wrap .i64 (x1.1 + (IntKind.wrap .i64 ((Int.tmod (IntKind.wrap .i64 ((b5.toNat : Int))) (128 : Int)) * x1.2.1))), IntKind.wrap .i64 (x1.2.1 * (128 : Int)), IntKind.wrap .i64 (x1.2.2 + (1 : Int)))
    else some (Sum.inl ())) ((0 : Int), (1 : Int), a1) : Option ((Unit) ⊕ (Int × Int × Bool))) fun y => match y with
  | .inl x10 =>
   some (((0 : Int), (0 : Int), false), ())
  | .inr x10 =>
   some (x10, ()) := by kernel_rfl
def c_sSumMore : TC :=
 (.seq (.rg [o1 4 (.lit [.i .u32] [.int .u32 (0)])])
 (.seq (.join [⟨0, [.i .u32], false⟩] 4294967265 none (.seq (.rg [o1 5 (.lit [.i .i64] [.int .i64 (0)])])
 (.block 0 (.loop [⟨0, [.i .u32], false⟩, ⟨5, [.i .i64], false⟩] 4294967265
  (.seq (.seq (.rg [o1 8 (.copy 5),
    o1 9 (.copy 1),
    o1 10 (.data .slen [.t 9]),
    o1 11 (.data (.bin .lss) [.t 8, .t 10])])
  (.cond (.t 11)
   .skip
   (.exit 0)))
  (.seq (.join [⟨0, [.i .u32], false⟩] 4294951105 none (.block 1 (.seq (.rg [o1 14 (.copy 0),
    o1 15 (.copy 1),
    o1 16 (.copy 5),
    o1 17 (.data .sidx [.t 15, .t 16]),
    o1 18 (.data (.conv .u32) [.t 17]),
    o1 19 (.data (.bin .xor) [.t 14, .t 18]),
    o1 0 (.copy 19)])
  (.seq (.rg [o1 6 (.lit [.i .i64] [.int .i64 (0)])])
  (.block 2 (.loop [⟨0, [.i .u32], false⟩, ⟨6, [.i .i64], false⟩] 4293918913
   (.seq (.seq (.rg [o1 20 (.copy 6),
     o1 21 (.data (.bin .lss) [.t 20, .c (.int .i64 (8))])])
   (.cond (.t 21)
    .skip
    (.exit 2)))
   (.seq (.join [⟨0, [.i .u32], false⟩] 4278190209 none (.block 3 (.seq (.rg [o1 24 (.copy 0),
     o1 25 (.data (.bin .rem) [.t 24, .c (.int .u32 (2))]),
     o1 26 (.data (.bin .eql) [.t 25, .c (.int .u32 (1))]),
     o1 7 (.copy 26)])
   (.seq (.rg [o1 27 (.copy 0),
     o1 28 (.data (.bin .quo) [.t 27, .c (.int .u32 (2))]),
     o1 0 (.copy 28)])
   (.seq (.rg [o1 29 (.copy 7)])
   (.cond (.t 29)
    (.rg [o1 30 (.copy 0),
      o1 31 (.data (.bin .xor) [.t 30, .c (.int .u32 (3558460437))]),
      o1 0 (.copy 31)])
    .skip))))))
   (.rg [o1 22 (.copy 6),
     o1 23 (.data (.bin .add) [.t 22, .c (.int .i64 (1))]),
     o1 6 (.copy 23)])))))))))
  (.rg [o1 12 (.copy 5),
    o1 13 (.data (.bin .add) [.t 12, .c (.int .i64 (1))]),
    o1 5 (.copy 13)])))))))
 (.seq (.rg [o1 32 (.copy 0),
   o1 4 (.copy 32)])
 .ret)))
def s_sSumMore : Sig := ⟨[.rd false [.d], .rd false [.d]], (.one false [.d])⟩
noncomputable def E_sSumMore : TEnv := envOf []
noncomputable def f_sSumMore (n : Nat) : Int × ByteArray → Option ((Int) × Unit) := runFn n E_sSumMore c_sSumMore [[.i .u32], [.s]] [.i .u32] [] [4] .no
noncomputable def g_sSumMore := f_sSumMore BIG
noncomputable def p_sSumMore : TSp := ⟨s_sSumMore, [[.i .u32], [.s]], [.i .u32], [], Ou.j .no, g_sSumMore⟩
theorem k_sSumMore : chkW PG E_sSumMore 320 s_sSumMore (c_sSumMore.ht 33) .no = some (c_sSumMore.wc E_sSumMore, [4]) := by kernel_rfl
theorem ok_sSumMore : p_sSumMore.Ok PG 320 := mkOk (env_nil PG) k_sSumMore (by kernel_rfl)
theorem e_sSumMore (n : Nat) (a0 : Int) (a1 : ByteArray) : f_sSumMore n (a0, a1) =
  Option.bind (loopT n (X := Int × Int) (B := Int) (fun self1 x0 =>
    bif decide (x0.2 < (a1.size : Int)) then
     Option.bind (bnd a1.size x0.2 fun n2 => Option.bind a1[n2]? fun b3 =>
      loopT n (X := Int × Int) (B := Int) (fun self5 x4 =>
       bif decide (x4.2 < (8 : Int)) then
        Option.bind (bif decide ((2 : Int) = 0) then
          none
         else bif decide ((2 : Int) = 0) then
          none
         else bif decide ((Int.tmod x4.1 (2 : Int)) = (1 : Int)) then
          some (bits .xor .u32 (IntKind.wrap .u32 (Int.tdiv x4.1 (2 : Int))) (3558460437 : Int))
         else some (IntKind.wrap .u32 (Int.tdiv x4.1 (2 : Int))) : Option (Int)) fun x6 =>
        self5 (x6, IntKind.wrap .i64 (x4.2 + (1 : Int)))
       else some x4.1) (bits .xor .u32 x0.1 (IntKind.wrap .u32 ((b3.toNat : Int))), (0 : Int)) : Option (Int)) fun x7 =>
     self1 (x7, IntKind.wrap .i64 (x0.2 + (1 : Int)))
    else some x0.1) (a0, (0 : Int)) : Option (Int)) fun x8 =>
  some (x8, ()) := by kernel_rfl
def c_sSumOf : TC :=
 (.seq (.rg [o1 2 (.lit [.i .u32] [.int .u32 (0)])])
 (.seq (.rg [o1 3 (.copy 0),
   o3 4 320 [.c [.i .u32] [.int .u32 (4294967295)], .t 3],
   o1 2 (.copy 4)])
 .ret))
def s_sSumOf : Sig := ⟨[.rd false [.d]], (.one false [.d])⟩
noncomputable def E_sSumOf : TEnv := envOf [(320, p_sSumMore)]
noncomputable def f_sSumOf (n : Nat) : ByteArray → Option ((Int) × Unit) := runFn n E_sSumOf c_sSumOf [[.s]] [.i .u32] [] [2] .no
noncomputable def g_sSumOf := f_sSumOf BIG
noncomputable def p_sSumOf : TSp := ⟨s_sSumOf, [[.s]], [.i .u32], [], Ou.j .no, g_sSumOf⟩
theorem k_sSumOf : chkW PG E_sSumOf 264 s_sSumOf (c_sSumOf.ht 5) .no = some (c_sSumOf.wc E_sSumOf, [2]) := by kernel_rfl
theorem ok_sSumOf : p_sSumOf.Ok PG 264 := mkOk (env_cons ok_sSumMore (env_nil PG)) k_sSumOf (by kernel_rfl)
theorem e_sSumOf (n : Nat) (a0 : ByteArray) : f_sSumOf n a0 =
  Option.bind (g_sSumMore ((4294967295 : Int), a0)) fun r0 =>
  some (r0.1, ()) := by kernel_rfl
def c_sl02Four : TC :=
 (.seq (.rg [o1 2 (.lit [.s] [.string ⟨#[]⟩])])
 (.seq (.rg [o1 3 (.copy 0),
   o1 4 (.data (.bin .shr) [.t 3, .c (.int .u64 (24))]),
   o1 5 (.data (.conv .u8) [.t 4]),
   o1 6 (.copy 0),
   o1 7 (.data (.bin .shr) [.t 6, .c (.int .u64 (16))]),
   o1 8 (.data (.conv .u8) [.t 7]),
   o1 9 (.copy 0),
   o1 10 (.data (.bin .shr) [.t 9, .c (.int .u64 (8))]),
   o1 11 (.data (.conv .u8) [.t 10]),
   o1 12 (.copy 0),
   o1 13 (.data (.conv .u8) [.t 12]),
   o1 14 (.sli [.i .u8] [.t 5, .t 8, .t 11, .t 13]),
   o1 15 (.bytes 14),
   o1 2 (.copy 15)])
 .ret))
def s_sl02Four : Sig := ⟨[.rd false [.d]], (.one false [.d])⟩
noncomputable def E_sl02Four : TEnv := envOf []
noncomputable def f_sl02Four (n : Nat) : Int → Option ((ByteArray) × Unit) := runFn n E_sl02Four c_sl02Four [[.i .u32]] [.s] [] [2] .no
noncomputable def g_sl02Four := f_sl02Four BIG
noncomputable def p_sl02Four : TSp := ⟨s_sl02Four, [[.i .u32]], [.s], [], Ou.j .no, g_sl02Four⟩
theorem k_sl02Four : chkW PG E_sl02Four 263 s_sl02Four (c_sl02Four.ht 16) .no = some (c_sl02Four.wc E_sl02Four, [2]) := by kernel_rfl
theorem ok_sl02Four : p_sl02Four.Ok PG 263 := mkOk (env_nil PG) k_sl02Four (by kernel_rfl)
theorem e_sl02Four (n : Nat) (a0 : Int) : f_sl02Four n a0 =
  bif decide ((24 : Int) < 0) then
   none
  else bif decide ((16 : Int) < 0) then
   none
  else bif decide ((8 : Int) < 0) then
   none
  else some (bytesStr ([IntKind.wrap .u8 (Int.fdiv a0 (2 ^ (Nat.min (Int.toNat (24 : Int)) (IntKind.bits .u32)))), IntKind.wrap .u8 (Int.fdiv a0 (2 ^ (Nat.min (Int.toNat (16 : Int)) (IntKind.bits .u32)))), IntKind.wrap .u8 (Int.fdiv a0 (2 ^ (Nat.min (Int.toNat (8 : Int)) (IntKind.bits .u32)))), IntKind.wrap .u8 (a0)]), ()) := by kernel_rfl
def c_sFrame : TC :=
 (.seq (.rg [o1 2 (.lit [.s] [.string ⟨#[]⟩]),
   o1 3 (.lit [.b] [.bool false])])
 (.seq (.seq (.rg [o1 4 (.copy 0),
   o1 5 (.data .slen [.t 4]),
   o3 6 98 [.t 5, .c [.i .i64] [.int .i64 (1)], .c [.i .i64] [.int .i64 (9000)]],
   o1 7 (.data .not [.t 6])])
 (.cond (.t 7)
  (.seq (.rg [o1 2 (.lit [.s] [.string ⟨#[]⟩]),
    o1 3 (.lit [.b] [.bool false])])
  .ret)
  .skip))
 (.seq (.rg [o1 8 (.copy 0),
   o1 9 (.data .slen [.t 8]),
   o3 10 262 [.t 9],
   o1 11 (.copy 0),
   o3 12 264 [.t 11],
   o3 13 263 [.t 12],
   o1 14 (.data (.bin .add) [.t 10, .t 13]),
   o1 15 (.copy 0),
   o1 16 (.data (.bin .add) [.t 14, .t 15]),
   o1 2 (.copy 16),
   o1 3 (.lit [.b] [.bool true])])
 .ret)))
def s_sFrame : Sig := ⟨[.rd false [.d]], (.tup [(false, 1), (false, 1)] [.d, .d])⟩
noncomputable def E_sFrame : TEnv := envOf [(98, p_sl01In), (262, p_sl01Var), (264, p_sSumOf), (263, p_sl02Four)]
noncomputable def f_sFrame (n : Nat) : ByteArray → Option ((ByteArray × Bool) × Unit) := runFn n E_sFrame c_sFrame [[.s]] [.s, .b] [] [2, 3] .no
noncomputable def g_sFrame := f_sFrame BIG
noncomputable def p_sFrame : TSp := ⟨s_sFrame, [[.s]], [.s, .b], [], Ou.j .no, g_sFrame⟩
theorem k_sFrame : chkW PG E_sFrame 142 s_sFrame (c_sFrame.ht 17) .no = some (c_sFrame.wc E_sFrame, [2, 3]) := by kernel_rfl
theorem ok_sFrame : p_sFrame.Ok PG 142 := mkOk (env_cons ok_sl01In (env_cons ok_sl01Var (env_cons ok_sSumOf (env_cons ok_sl02Four (env_nil PG))))) k_sFrame (by kernel_rfl)
theorem e_sFrame (n : Nat) (a0 : ByteArray) : f_sFrame n a0 =
  Option.bind (g_sl01In ((a0.size : Int), (1 : Int), (9000 : Int))) fun r0 =>
  bif !r0.1 then
   some (((ByteArray.mk #[]), false), ())
  else Option.bind (g_sl01Var (a0.size : Int)) fun r1 =>
  Option.bind (g_sSumOf a0) fun r2 =>
  Option.bind (g_sl02Four r2.1) fun r3 =>
  bif decide (r1.1.size + r3.1.size ≤ 4611686018427387904) then
   bif decide ((r1.1 ++ r3.1).size + a0.size ≤ 4611686018427387904) then
    some (((r1.1 ++ r3.1) ++ a0, true), ())
   else none
  else none := by kernel_rfl
def c_sUnframe : TC :=
 (.seq (.rg [o1 2 (.lit [.sl [.s]] [.slice none 0 0]),
   o1 3 (.lit [.i .i64] [.int .i64 (0)])])
 (.seq (.rg [o1 12 (.sli [.s] []),
   ⟨false, [], [], .det 2 (.copy 12), [4, 12], (some 4), none⟩])
 (.seq (.rg [o1 5 (.lit [.i .i64] [.int .i64 (0)])])
 (.seq (.seq (.rg [o1 13 (.copy 0),
   o1 14 (.data .slen [.t 13]),
   o1 15 (.data (.bin .gtr) [.t 14, .c (.int .i64 (20000))])])
 (.cond (.t 15)
  (.seq (.rg [⟨false, [], [], .det 2 (.copy 4), [16, 4], (some 16), none⟩,
    ⟨false, [], [], .det 2 (.copy 16), [2, 16], (some 2), none⟩,
    o1 3 (.lit [.i .i64] [.int .i64 (0)])])
  .ret)
  .skip))
 (.seq (.join [⟨4, [.sl [.s]], false⟩, ⟨5, [.i .i64], false⟩] 151115727451828646711292 (some [⟨2, [.sl [.s]], false⟩, ⟨3, [.i .i64], false⟩]) (.block 0 (.loop [⟨4, [.sl [.s]], false⟩, ⟨5, [.i .i64], false⟩] 151115727451828646711292
  (.seq (.seq (.rg [o1 17 (.copy 5),
    o1 18 (.copy 0),
    o1 19 (.data .slen [.t 18]),
    o1 20 (.data (.bin .lss) [.t 17, .t 19])])
  (.cond (.t 20)
   .skip
   (.exit 0)))
  (.block 1 (.seq (.rg [o1 22 (.copy 0),
    o1 23 (.copy 5),
    o3 24 255 [.t 22, .t 23],
    ⟨false, [], [], .det 2 (.copy 24), [21, 24], (some 21), none⟩,
    o1 25 (.ext 21 0 1),
    o1 26 (.ext 21 1 1),
    o1 27 (.ext 21 2 1),
    o1 6 (.copy 25),
    o1 7 (.copy 26),
    o1 8 (.copy 27)])
  (.seq (.seq (.join [⟨38, [.b], false⟩] 549487378432 none (.rg [o1 28 (.copy 8),
    o1 29 (.data .not [.t 28]),
    o1 30 (.copy 29),
    o2 31 (.copy 6) 2 false,
    o2 32 (.copy 0) 2 false,
    o2 33 (.data .slen [.t 32]) 2 false,
    o2 34 (.copy 7) 2 false,
    o2 35 (.data (.bin .sub) [.t 33, .t 34]) 2 false,
    o2 36 (.data (.bin .sub) [.t 35, .c (.int .i64 (4))]) 2 false,
    o2 37 (.data (.bin .gtr) [.t 31, .t 36]) 2 false,
    ⟨false, [], [], .pick 30 (.c (.bool true)) (.t 37), [38], (some 38), none⟩]))
  (.cond (.t 38)
   (.seq (.rg [⟨false, [], [], .det 2 (.copy 4), [39, 4], (some 39), none⟩,
     o1 40 (.copy 5),
     ⟨false, [], [], .det 2 (.copy 39), [2, 39], (some 2), none⟩,
     o1 3 (.copy 40)])
   .ret)
   .skip))
  (.seq (.rg [o1 41 (.copy 0),
    o1 42 (.copy 7),
    o1 43 (.data (.bin .add) [.t 42, .c (.int .i64 (4))]),
    o1 44 (.copy 7),
    o1 45 (.data (.bin .add) [.t 44, .c (.int .i64 (4))]),
    o1 46 (.copy 6),
    o1 47 (.data (.bin .add) [.t 45, .t 46]),
    o1 48 (.data (.ssl true true) [.t 41, .t 43, .t 47]),
    o1 9 (.copy 48)])
  (.seq (.rg [o1 50 (.copy 9),
    o3 51 142 [.t 50],
    ⟨false, [], [], .det 2 (.copy 51), [49, 51], (some 49), none⟩,
    o1 52 (.ext 49 0 1),
    o1 53 (.ext 49 1 1),
    o1 10 (.copy 52),
    o1 11 (.copy 53)])
  (.seq (.seq (.join [⟨66, [.b], false⟩] 147555938191166930944 none (.rg [o1 54 (.copy 11),
    o1 55 (.data .not [.t 54]),
    o1 56 (.copy 55),
    o2 57 (.copy 10) 2 false,
    o2 58 (.copy 0) 2 false,
    o2 59 (.copy 5) 2 false,
    o2 60 (.copy 7) 2 false,
    o2 61 (.data (.bin .add) [.t 60, .c (.int .i64 (4))]) 2 false,
    o2 62 (.copy 6) 2 false,
    o2 63 (.data (.bin .add) [.t 61, .t 62]) 2 false,
    o2 64 (.data (.ssl true true) [.t 58, .t 59, .t 63]) 2 false,
    o2 65 (.data (.bin .neq) [.t 57, .t 64]) 2 false,
    ⟨false, [], [], .pick 56 (.c (.bool true)) (.t 65), [66], (some 66), none⟩]))
  (.cond (.t 66)
   (.seq (.rg [⟨false, [], [], .det 2 (.copy 4), [67, 4], (some 67), none⟩,
     o1 68 (.copy 5),
     ⟨false, [], [], .det 2 (.copy 67), [2, 67], (some 2), none⟩,
     o1 3 (.copy 68)])
   .ret)
   .skip))
  (.seq (.rg [⟨false, [], [], .det 2 (.copy 4), [69, 4], (some 69), none⟩,
    o1 70 (.copy 9),
    o1 71 (.sli [.s] [.t 70]),
    ⟨false, [], [], .det 2 (.app (some 69) 71), [72, 69], (some 72), none⟩,
    ⟨false, [], [], .det 2 (.copy 72), [4, 72], (some 4), none⟩])
  (.rg [o1 73 (.copy 7),
    o1 74 (.data (.bin .add) [.t 73, .c (.int .i64 (4))]),
    o1 75 (.copy 6),
    o1 76 (.data (.bin .add) [.t 74, .t 75]),
    o1 5 (.copy 76)]))))))))))))
 (.seq (.rg [⟨false, [], [], .det 2 (.copy 4), [77, 4], (some 77), none⟩,
   o1 78 (.copy 5),
   ⟨false, [], [], .det 2 (.copy 77), [2, 77], (some 2), none⟩,
   o1 3 (.copy 78)])
 .ret))))))
def s_sUnframe : Sig := ⟨[.rd false [.d]], (.tup [(false, 1), (false, 1)] [.sl (.own none) [.d], .d])⟩
noncomputable def E_sUnframe : TEnv := envOf [(255, p_sReadVar), (142, p_sFrame)]
noncomputable def f_sUnframe (n : Nat) : ByteArray → Option ((List (ByteArray) × Int) × Unit) := runFn n E_sUnframe c_sUnframe [[.s]] [.sl [.s], .i .i64] [] [2, 3] .no
noncomputable def g_sUnframe := f_sUnframe BIG
noncomputable def p_sUnframe : TSp := ⟨s_sUnframe, [[.s]], [.sl [.s], .i .i64], [], Ou.j .no, g_sUnframe⟩
theorem k_sUnframe : chkW PG E_sUnframe 140 s_sUnframe (c_sUnframe.ht 79) .no = some (c_sUnframe.wc E_sUnframe, [2, 3]) := by kernel_rfl
theorem ok_sUnframe : p_sUnframe.Ok PG 140 := mkOk (env_cons ok_sReadVar (env_cons ok_sFrame (env_nil PG))) k_sUnframe (by kernel_rfl)
theorem e_sUnframe (n : Nat) (a0 : ByteArray) : f_sUnframe n a0 =
  bif decide ((20000 : Int) < (a0.size : Int)) then
   some (([], (0 : Int)), ())
  else Option.bind (loopT n (X := (List (ByteArray)) × Int) (B := ((List (ByteArray)) × Int) ⊕ ((List (ByteArray)) × Int)) (fun self1 x0 =>
    bif decide (x0.2 < (a0.size : Int)) then
     Option.bind (g_sReadVar (a0, x0.2)) fun r2 =>
     Option.bind (bif !r2.1.2.2 then
       some true
      else some (decide ((IntKind.wrap .i64 ((IntKind.wrap .i64 ((a0.size : Int) - r2.1.2.1)) - (4 : Int))) < r2.1.1)) : Option (Bool)) fun x3 =>
     bif x3 then
      some (Sum.inr (x0.1, x0.2))
     else bif decide (0 ≤ (IntKind.wrap .i64 (r2.1.2.1 + (4 : Int))) ∧ (IntKind.wrap .i64 (r2.1.2.1 + (4 : Int))) ≤ (IntKind.wrap .i64 ((IntKind.wrap .i64 (r2.1.2.1 + (4 : Int))) + r2.1.1)) ∧ (IntKind.wrap .i64 ((IntKind.wrap .i64 (r2.1.2.1 + (4 : Int))) + r2.1.1)) ≤ a0.size) then
      Option.bind (g_sFrame (a0.extract (Int.toNat (IntKind.wrap .i64 (r2.1.2.1 + (4 : Int)))) (Int.toNat (IntKind.wrap .i64 ((IntKind.wrap .i64 (r2.1.2.1 + (4 : Int))) + r2.1.1))))) fun r4 =>
      Option.bind (bif !r4.1.2 then
        some true
       else bif decide (0 ≤ x0.2 ∧ x0.2 ≤ (IntKind.wrap .i64 ((IntKind.wrap .i64 (r2.1.2.1 + (4 : Int))) + r2.1.1)) ∧ (IntKind.wrap .i64 ((IntKind.wrap .i64 (r2.1.2.1 + (4 : Int))) + r2.1.1)) ≤ a0.size) then
        some (!(r4.1.1.toList == (a0.extract (Int.toNat x0.2) (Int.toNat (IntKind.wrap .i64 ((IntKind.wrap .i64 (r2.1.2.1 + (4 : Int))) + r2.1.1)))).toList))
       else none : Option (Bool)) fun x5 =>
      bif x5 then
       some (Sum.inr (x0.1, x0.2))
      else bif decide (x0.1.length + ([a0.extract (Int.toNat (IntKind.wrap .i64 (r2.1.2.1 + (4 : Int)))) (Int.toNat (IntKind.wrap .i64 ((IntKind.wrap .i64 (r2.1.2.1 + (4 : Int))) + r2.1.1)))]).length ≤ 4294967296) then
       self1 (x0.1 ++ ([a0.extract (Int.toNat (IntKind.wrap .i64 (r2.1.2.1 + (4 : Int)))) (Int.toNat (IntKind.wrap .i64 ((IntKind.wrap .i64 (r2.1.2.1 + (4 : Int))) + r2.1.1)))]), IntKind.wrap .i64 ((IntKind.wrap .i64 (r2.1.2.1 + (4 : Int))) + r2.1.1))
      else none
     else none
    else some (Sum.inl (x0.1, x0.2))) ([], (0 : Int)) : Option (((List (ByteArray)) × Int) ⊕ ((List (ByteArray)) × Int))) fun y => match y with
  | .inl x6 =>
   some (x6, ())
  | .inr x6 =>
   some (x6, ()) := by kernel_rfl
def c_sl09Take : TC :=
 (.seq (.rg [o1 4 (.lit [.s] [.string ⟨#[]⟩])])
 (.seq (.seq (.join [⟨22, [.b], false⟩] 8388576 none (.rg [o1 5 (.p0),
   o1 6 (.same 5),
   o1 7 (.idx (.t 6)),
   o1 8 (.load 0 [] 2 (.t 7) 1 false),
   o1 9 (.copy 8),
   o2 10 (.copy 1) 4 false,
   o2 11 (.p0) 4 false,
   o2 12 (.same 11) 4 false,
   o2 13 (.idx (.t 12)) 4 false,
   o2 14 (.load 0 [] 0 (.t 13) 1 false) 4 false,
   o2 15 (.data .slen [.t 14]) 4 false,
   o2 16 (.p0) 4 false,
   o2 17 (.same 16) 4 false,
   o2 18 (.idx (.t 17)) 4 false,
   o2 19 (.load 0 [] 1 (.t 18) 1 false) 4 false,
   o2 20 (.data (.bin .sub) [.t 15, .t 19]) 4 false,
   o2 21 (.data (.bin .gtr) [.t 10, .t 20]) 4 false,
   ⟨false, [], [], .pick 9 (.c (.bool true)) (.t 21), [22], (some 22), none⟩]))
 (.cond (.t 22)
  (.seq (.rg [o1 23 (.p0),
    o1 24 (.same 23),
    o1 25 (.idx (.t 24)),
    o4 1 [0] (.store 0 [] 2 (.t 25) (.c [.b] [.bool true]))])
  (.seq (.rg [o1 4 (.lit [.s] [.string ⟨#[]⟩])])
  .ret))
  .skip))
 (.seq (.rg [o1 26 (.p0),
   o1 27 (.p0),
   o1 28 (.same 27),
   o1 29 (.idx (.t 28)),
   o1 30 (.load 0 [] 1 (.t 29) 1 false),
   o1 31 (.copy 1),
   o1 32 (.data (.bin .add) [.t 30, .t 31]),
   o1 33 (.same 26),
   o1 34 (.idx (.t 33)),
   o4 1 [0] (.store 0 [] 1 (.t 34) (.t 32))])
 (.seq (.rg [o1 35 (.p0),
   o1 36 (.same 35),
   o1 37 (.idx (.t 36)),
   o1 38 (.load 0 [] 0 (.t 37) 1 false),
   o1 39 (.p0),
   o1 40 (.same 39),
   o1 41 (.idx (.t 40)),
   o1 42 (.load 0 [] 1 (.t 41) 1 false),
   o1 43 (.copy 1),
   o1 44 (.data (.bin .sub) [.t 42, .t 43]),
   o1 45 (.p0),
   o1 46 (.same 45),
   o1 47 (.idx (.t 46)),
   o1 48 (.load 0 [] 1 (.t 47) 1 false),
   o1 49 (.data (.ssl true true) [.t 38, .t 44, .t 48]),
   o1 4 (.copy 49)])
 .ret))))
def s_sl09Take : Sig := ⟨[.mp [.d, .d, .d], .rd false [.d]], (.one false [.d])⟩
noncomputable def E_sl09Take : TEnv := envOf []
noncomputable def f_sl09Take (n : Nat) : (ByteArray × Int × Bool) × Int → Option ((ByteArray) × ByteArray × Int × Bool) := runFn n E_sl09Take c_sl09Take [[.s, .i .i64, .b], [.i .i64]] [.s] [.s, .i .i64, .b] [4] (.mp 0)
noncomputable def g_sl09Take := f_sl09Take BIG
noncomputable def p_sl09Take : TSp := ⟨s_sl09Take, [[.s, .i .i64, .b], [.i .i64]], [.s], [.s, .i .i64, .b], Ou.j (.mp 0), g_sl09Take⟩
theorem k_sl09Take : chkW PG E_sl09Take 259 s_sl09Take (c_sl09Take.ht 50) (.mp 0) = some (c_sl09Take.wc E_sl09Take, [4]) := by kernel_rfl
theorem ok_sl09Take : p_sl09Take.Ok PG 259 := mkOk (env_nil PG) k_sl09Take (by kernel_rfl)
theorem e_sl09Take (n : Nat) (a0 : ByteArray × Int × Bool) (a1 : Int) : f_sl09Take n (a0, a1) =
  Option.bind (bif a0.2.2 then
    some true
   else some (decide ((IntKind.wrap .i64 ((a0.1.size : Int) - a0.2.1)) < a1)) : Option (Bool)) fun x0 =>
  bif x0 then
   some ((ByteArray.mk #[]), (a0.1, a0.2.1, true))
  else bif decide (0 ≤ (IntKind.wrap .i64 ((IntKind.wrap .i64 (a0.2.1 + a1)) - a1)) ∧ (IntKind.wrap .i64 ((IntKind.wrap .i64 (a0.2.1 + a1)) - a1)) ≤ (IntKind.wrap .i64 (a0.2.1 + a1)) ∧ (IntKind.wrap .i64 (a0.2.1 + a1)) ≤ a0.1.size) then
   some (a0.1.extract (Int.toNat (IntKind.wrap .i64 ((IntKind.wrap .i64 (a0.2.1 + a1)) - a1))) (Int.toNat (IntKind.wrap .i64 (a0.2.1 + a1))), (a0.1, IntKind.wrap .i64 (a0.2.1 + a1), a0.2.2))
  else none := by kernel_rfl
def c_sl09One : TC :=
 (.seq (.rg [o1 2 (.lit [.i .i64] [.int .i64 (0)])])
 (.seq (.rg [o1 4 (.p0),
   ⟨false, [], [], .call 2 259 [.t 0, .c [.i .i64] [.int .i64 (1)]] (.mp 0), [5, 0], (some 5), none⟩,
   o1 3 (.copy 5)])
 (.seq (.seq (.rg [o1 6 (.p0),
   o1 7 (.same 6),
   o1 8 (.idx (.t 7)),
   o1 9 (.load 0 [] 2 (.t 8) 1 false)])
 (.cond (.t 9)
  (.seq (.rg [o1 2 (.lit [.i .i64] [.int .i64 (0)])])
  .ret)
  .skip))
 (.seq (.rg [o1 10 (.copy 3),
   o1 11 (.data .sidx [.t 10, .c (.int .i64 (0))]),
   o1 12 (.data (.conv .i64) [.t 11]),
   o1 2 (.copy 12)])
 .ret))))
def s_sl09One : Sig := ⟨[.mp [.d, .d, .d]], (.one false [.d])⟩
noncomputable def E_sl09One : TEnv := envOf [(259, p_sl09Take)]
noncomputable def f_sl09One (n : Nat) : (ByteArray × Int × Bool) → Option ((Int) × ByteArray × Int × Bool) := runFn n E_sl09One c_sl09One [[.s, .i .i64, .b]] [.i .i64] [.s, .i .i64, .b] [2] (.mp 0)
noncomputable def g_sl09One := f_sl09One BIG
noncomputable def p_sl09One : TSp := ⟨s_sl09One, [[.s, .i .i64, .b]], [.i .i64], [.s, .i .i64, .b], Ou.j (.mp 0), g_sl09One⟩
theorem k_sl09One : chkW PG E_sl09One 256 s_sl09One (c_sl09One.ht 13) (.mp 0) = some (c_sl09One.wc E_sl09One, [2]) := by kernel_rfl
theorem ok_sl09One : p_sl09One.Ok PG 256 := mkOk (env_cons ok_sl09Take (env_nil PG)) k_sl09One (by kernel_rfl)
theorem e_sl09One (n : Nat) (a0 : ByteArray × Int × Bool) : f_sl09One n a0 =
  Option.bind (g_sl09Take (a0, (1 : Int))) fun r0 =>
  bif r0.2.2.2 then
   some ((0 : Int), r0.2)
  else bnd r0.1.size (0 : Int) fun n1 => Option.bind r0.1[n1]? fun b2 =>
  some (IntKind.wrap .i64 ((b2.toNat : Int)), r0.2) := by kernel_rfl
def c_sl09Var : TC :=
 (.seq (.rg [o1 2 (.lit [.i .i64] [.int .i64 (0)])])
 (.seq (.rg [o1 7 (.p0),
   o1 8 (.same 7),
   o1 9 (.idx (.t 8)),
   o1 10 (.load 0 [] 0 (.t 9) 1 false),
   o1 11 (.p0),
   o1 12 (.same 11),
   o1 13 (.idx (.t 12)),
   o1 14 (.load 0 [] 1 (.t 13) 1 false),
   o3 15 255 [.t 10, .t 14],
   ⟨false, [], [], .det 2 (.copy 15), [6, 15], (some 6), none⟩,
   o1 16 (.ext 6 0 1),
   o1 17 (.ext 6 1 1),
   o1 18 (.ext 6 2 1),
   o1 3 (.copy 16),
   o1 4 (.copy 17),
   o1 5 (.copy 18)])
 (.seq (.seq (.join [⟨26, [.b], false⟩] 133693440 none (.rg [o1 19 (.p0),
   o1 20 (.same 19),
   o1 21 (.idx (.t 20)),
   o1 22 (.load 0 [] 2 (.t 21) 1 false),
   o1 23 (.copy 22),
   o2 24 (.copy 5) 4 false,
   o2 25 (.data .not [.t 24]) 4 false,
   ⟨false, [], [], .pick 23 (.c (.bool true)) (.t 25), [26], (some 26), none⟩]))
 (.cond (.t 26)
  (.seq (.rg [o1 27 (.p0),
    o1 28 (.same 27),
    o1 29 (.idx (.t 28)),
    o4 1 [0] (.store 0 [] 2 (.t 29) (.c [.b] [.bool true]))])
  (.seq (.rg [o1 2 (.lit [.i .i64] [.int .i64 (0)])])
  .ret))
  .skip))
 (.seq (.rg [o1 30 (.p0),
   o1 31 (.copy 4),
   o1 32 (.same 30),
   o1 33 (.idx (.t 32)),
   o4 1 [0] (.store 0 [] 1 (.t 33) (.t 31))])
 (.seq (.rg [o1 34 (.copy 3),
   o1 2 (.copy 34)])
 .ret)))))
def s_sl09Var : Sig := ⟨[.mp [.d, .d, .d]], (.one false [.d])⟩
noncomputable def E_sl09Var : TEnv := envOf [(255, p_sReadVar)]
noncomputable def f_sl09Var (n : Nat) : (ByteArray × Int × Bool) → Option ((Int) × ByteArray × Int × Bool) := runFn n E_sl09Var c_sl09Var [[.s, .i .i64, .b]] [.i .i64] [.s, .i .i64, .b] [2] (.mp 0)
noncomputable def g_sl09Var := f_sl09Var BIG
noncomputable def p_sl09Var : TSp := ⟨s_sl09Var, [[.s, .i .i64, .b]], [.i .i64], [.s, .i .i64, .b], Ou.j (.mp 0), g_sl09Var⟩
theorem k_sl09Var : chkW PG E_sl09Var 257 s_sl09Var (c_sl09Var.ht 35) (.mp 0) = some (c_sl09Var.wc E_sl09Var, [2]) := by kernel_rfl
theorem ok_sl09Var : p_sl09Var.Ok PG 257 := mkOk (env_cons ok_sReadVar (env_nil PG)) k_sl09Var (by kernel_rfl)
theorem e_sl09Var (n : Nat) (a0 : ByteArray × Int × Bool) : f_sl09Var n a0 =
  Option.bind (g_sReadVar (a0.1, a0.2.1)) fun r0 =>
  Option.bind (bif a0.2.2 then
    some true
   else some !r0.1.2.2 : Option (Bool)) fun x1 =>
  bif x1 then
   some ((0 : Int), (a0.1, a0.2.1, true))
  else some (r0.1.1, (a0.1, r0.1.2.1, a0.2.2)) := by kernel_rfl
def c_sl09ReadEdges : TC :=
 (.seq (.rg [o1 2 (.lit [.sl [.i .i64, .i .i64]] [.slice none 0 0])])
 (.seq (.rg [o1 7 (.sli [.i .i64, .i .i64] []),
   ⟨false, [], [], .det 2 (.copy 7), [3, 7], (some 3), none⟩])
 (.seq (.rg [o1 8 (.p0),
   ⟨false, [], [], .call 2 257 [.t 0] (.mp 0), [9, 0], (some 9), none⟩,
   o1 4 (.copy 9)])
 (.seq (.join [⟨0, [.s, .i .i64, .b], false⟩, ⟨3, [.sl [.i .i64, .i .i64]], false⟩] 68719475817 none (.seq (.rg [o1 5 (.lit [.i .i64] [.int .i64 (0)])])
 (.block 0 (.loop [⟨0, [.s, .i .i64, .b], false⟩, ⟨3, [.sl [.i .i64, .i .i64]], false⟩, ⟨5, [.i .i64], false⟩] 68719475817
  (.seq (.seq (.join [⟨23, [.b], false⟩] 16776192 none (.rg [o1 10 (.copy 5),
    o1 11 (.copy 4),
    o1 12 (.data (.bin .lss) [.t 10, .t 11]),
    o1 13 (.copy 12),
    o2 14 (.copy 5) 3 true,
    o2 15 (.data (.bin .lss) [.t 14, .c (.int .i64 (100))]) 3 true,
    ⟨false, [], [], .pick 13 (.t 15) (.c (.bool false)), [16], (some 16), none⟩,
    o1 17 (.copy 16),
    o2 18 (.p0) 7 true,
    o2 19 (.same 18) 7 true,
    o2 20 (.idx (.t 19)) 7 true,
    o2 21 (.load 0 [] 2 (.t 20) 1 false) 7 true,
    o2 22 (.data .not [.t 21]) 7 true,
    ⟨false, [], [], .pick 17 (.t 22) (.c (.bool false)), [23], (some 23), none⟩]))
  (.cond (.t 23)
   .skip
   (.exit 0)))
  (.seq (.block 1 (.seq (.rg [o1 26 (.p0),
    ⟨false, [], [], .call 2 256 [.t 0] (.mp 0), [27, 0], (some 27), none⟩,
    o1 28 (.build [.i .i64, .i .i64] [(0, .t 27)]),
    ⟨false, [], [], .det 2 (.a (.c [.i .i64, .i .i64] [.int .i64 (0), .int .i64 (0)])), [6, 1000000001], (some 6), none⟩,
    o4 1 [6] (.store 6 [] 0 .nil (.t 28))])
  (.seq (.rg [o1 29 (.p0),
    ⟨false, [], [], .call 2 256 [.t 0] (.mp 0), [30, 0], (some 30), none⟩,
    o1 31 (.idx .nil),
    o4 1 [6] (.store 6 [] 1 (.t 31) (.t 30))])
  (.rg [⟨false, [], [], .det 2 (.copy 3), [32, 3], (some 32), none⟩,
    o1 33 (.load 6 [] 0 .nil 2 false),
    o1 34 (.sli [.i .i64, .i .i64] [.t 33]),
    ⟨false, [], [], .det 2 (.app (some 32) 34), [35, 32], (some 35), none⟩,
    ⟨false, [], [], .det 2 (.copy 35), [3, 35], (some 3), none⟩]))))
  (.rg [o1 24 (.copy 5),
    o1 25 (.data (.bin .add) [.t 24, .c (.int .i64 (1))]),
    o1 5 (.copy 25)])))))))
 (.seq (.rg [⟨false, [], [], .det 2 (.copy 3), [36, 3], (some 36), none⟩,
   ⟨false, [], [], .det 2 (.copy 36), [2, 36], (some 2), none⟩])
 .ret)))))
def s_sl09ReadEdges : Sig := ⟨[.mp [.d, .d, .d]], (.one false [.sl (.own none) [.d, .d]])⟩
noncomputable def E_sl09ReadEdges : TEnv := envOf [(257, p_sl09Var), (256, p_sl09One)]
noncomputable def f_sl09ReadEdges (n : Nat) : (ByteArray × Int × Bool) → Option ((List (Int × Int)) × ByteArray × Int × Bool) := runFn n E_sl09ReadEdges c_sl09ReadEdges [[.s, .i .i64, .b]] [.sl [.i .i64, .i .i64]] [.s, .i .i64, .b] [2] (.mp 0)
noncomputable def g_sl09ReadEdges := f_sl09ReadEdges BIG
noncomputable def p_sl09ReadEdges : TSp := ⟨s_sl09ReadEdges, [[.s, .i .i64, .b]], [.sl [.i .i64, .i .i64]], [.s, .i .i64, .b], Ou.j (.mp 0), g_sl09ReadEdges⟩
theorem k_sl09ReadEdges : chkW PG E_sl09ReadEdges 315 s_sl09ReadEdges (c_sl09ReadEdges.ht 37) (.mp 0) = some (c_sl09ReadEdges.wc E_sl09ReadEdges, [2]) := by kernel_rfl
theorem ok_sl09ReadEdges : p_sl09ReadEdges.Ok PG 315 := mkOk (env_cons ok_sl09Var (env_cons ok_sl09One (env_nil PG))) k_sl09ReadEdges (by kernel_rfl)
theorem e_sl09ReadEdges (n : Nat) (a0 : ByteArray × Int × Bool) : f_sl09ReadEdges n a0 =
  Option.bind (g_sl09Var a0) fun r0 =>
  Option.bind (loopT n (X := (ByteArray × Int × Bool) × (List (Int × Int)) × Int) (B := (ByteArray × Int × Bool) × (List (Int × Int))) (fun self2 x1 =>
    Option.bind (bif decide (x1.2.2 < r0.1) then
      bif decide (x1.2.2 < (100 : Int)) then
       some !x1.1.2.2
      else some false
     else some false : Option (Bool)) fun x3 =>
    bif x3 then
     Option.bind (g_sl09One x1.1) fun r4 =>
     Option.bind (g_sl09One r4.2) fun r5 =>
     bif decide (x1.2.1.length + ([(r4.1, r5.1)]).length ≤ 4294967296) then
      self2 (r5.2, x1.2.1 ++ ([(r4.1, r5.1)]), IntKind.wrap .i64 (x1.2.2 + (1 : Int)))
     else none
    else some (x1.1, x1.2.1)) (r0.2, [], (0 : Int)) : Option ((ByteArray × Int × Bool) × (List (Int × Int)))) fun x6 =>
  some (x6.2, x6.1) := by kernel_rfl
def c_sEdgeOk : TC :=
 (.seq (.rg [o1 3 (.a (.t 1)),
   o1 4 (.lit [.b] [.bool false])])
 (.seq (.join [⟨4, [.b], false⟩] 268435440 none (.rg [o1 5 (.copy 0),
   o3 6 98 [.t 5, .c [.i .i64] [.int .i64 (1)], .c [.i .i64] [.int .i64 (12)]],
   o1 7 (.copy 6),
   o2 8 (.idx .nil) 2 true,
   o2 9 (.load 3 [] 0 (.t 8) 1 false) 2 true,
   o2 10 (.copy 0) 2 true,
   o2 11 (.data (.bin .sub) [.t 10, .c (.int .i64 (1))]) 2 true,
   ⟨false, [], [], .call 1 98 [.t 9, .c [.i .i64] [.int .i64 (0)], .t 11] .no, [12], (some 12), some (2, true)⟩,
   ⟨false, [], [], .pick 7 (.t 12) (.c (.bool false)), [13], (some 13), none⟩,
   o1 14 (.copy 13),
   o2 15 (.idx .nil) 9 true,
   o2 16 (.load 3 [] 1 (.t 15) 1 false) 9 true,
   o2 17 (.copy 0) 9 true,
   o2 18 (.data (.bin .sub) [.t 17, .c (.int .i64 (1))]) 9 true,
   ⟨false, [], [], .call 1 98 [.t 16, .c [.i .i64] [.int .i64 (0)], .t 18] .no, [19], (some 19), some (9, true)⟩,
   ⟨false, [], [], .pick 14 (.t 19) (.c (.bool false)), [20], (some 20), none⟩,
   o1 21 (.copy 20),
   o2 22 (.idx .nil) 16 true,
   o2 23 (.load 3 [] 0 (.t 22) 1 false) 16 true,
   o2 24 (.idx .nil) 16 true,
   o2 25 (.load 3 [] 1 (.t 24) 1 false) 16 true,
   o2 26 (.data (.bin .lss) [.t 23, .t 25]) 16 true,
   ⟨false, [], [], .pick 21 (.t 26) (.c (.bool false)), [27], (some 27), none⟩,
   o1 4 (.copy 27)]))
 .ret))
def s_sEdgeOk : Sig := ⟨[.rd false [.d], .rd true [.d, .d]], (.one false [.d])⟩
noncomputable def E_sEdgeOk : TEnv := envOf [(98, p_sl01In)]
noncomputable def f_sEdgeOk (n : Nat) : Int × (Int × Int) → Option ((Bool) × Unit) := runFn n E_sEdgeOk c_sEdgeOk [[.i .i64], [.i .i64, .i .i64]] [.b] [] [4] .no
noncomputable def g_sEdgeOk := f_sEdgeOk BIG
noncomputable def p_sEdgeOk : TSp := ⟨s_sEdgeOk, [[.i .i64], [.i .i64, .i .i64]], [.b], [], Ou.j .no, g_sEdgeOk⟩
theorem k_sEdgeOk : chkW PG E_sEdgeOk 116 s_sEdgeOk (c_sEdgeOk.ht 28) .no = some (c_sEdgeOk.wc E_sEdgeOk, [4]) := by kernel_rfl
theorem ok_sEdgeOk : p_sEdgeOk.Ok PG 116 := mkOk (env_cons ok_sl01In (env_nil PG)) k_sEdgeOk (by kernel_rfl)
theorem e_sEdgeOk (n : Nat) (a0 : Int) (a1 : Int × Int) : f_sEdgeOk n (a0, a1) =
  Option.bind (Option.bind (g_sl01In (a0, (1 : Int), (12 : Int))) fun r0 =>
   bif r0.1 then
    Option.bind (g_sl01In (a1.1, (0 : Int), IntKind.wrap .i64 (a0 - (1 : Int)))) fun r1 =>
    bif r1.1 then
     Option.bind (g_sl01In (a1.2, (0 : Int), IntKind.wrap .i64 (a0 - (1 : Int)))) fun r2 =>
     bif r2.1 then
      some (decide (a1.1 < a1.2))
     else some false
    else some false
   else some false : Option (Bool)) fun x3 =>
  some (x3, ()) := by kernel_rfl
def c_sl05Less : TC :=
 (.seq (.rg [o1 2 (.a (.t 0)),
   o1 3 (.a (.t 1)),
   o1 4 (.lit [.b] [.bool false])])
 (.seq (.join [⟨4, [.b], false⟩] 16777200 none (.rg [o1 5 (.idx .nil),
   o1 6 (.load 2 [] 0 (.t 5) 1 false),
   o1 7 (.idx .nil),
   o1 8 (.load 3 [] 0 (.t 7) 1 false),
   o1 9 (.data (.bin .lss) [.t 6, .t 8]),
   o1 10 (.copy 9),
   o2 11 (.idx .nil) 5 false,
   o2 12 (.load 2 [] 0 (.t 11) 1 false) 5 false,
   o2 13 (.idx .nil) 5 false,
   o2 14 (.load 3 [] 0 (.t 13) 1 false) 5 false,
   o2 15 (.data (.bin .eql) [.t 12, .t 14]) 5 false,
   o2 16 (.copy 15) 5 false,
   o2 17 (.idx .nil) 11 true,
   o2 18 (.load 2 [] 1 (.t 17) 1 false) 11 true,
   o2 19 (.idx .nil) 11 true,
   o2 20 (.load 3 [] 1 (.t 19) 1 false) 11 true,
   o2 21 (.data (.bin .lss) [.t 18, .t 20]) 11 true,
   ⟨false, [], [], .pick 16 (.t 21) (.c (.bool false)), [22], (some 22), some (5, false)⟩,
   ⟨false, [], [], .pick 10 (.c (.bool true)) (.t 22), [23], (some 23), none⟩,
   o1 4 (.copy 23)]))
 .ret))
def s_sl05Less : Sig := ⟨[.rd true [.d, .d], .rd true [.d, .d]], (.one false [.d])⟩
noncomputable def E_sl05Less : TEnv := envOf []
noncomputable def f_sl05Less (n : Nat) : (Int × Int) × (Int × Int) → Option ((Bool) × Unit) := runFn n E_sl05Less c_sl05Less [[.i .i64, .i .i64], [.i .i64, .i .i64]] [.b] [] [4] .no
noncomputable def g_sl05Less := f_sl05Less BIG
noncomputable def p_sl05Less : TSp := ⟨s_sl05Less, [[.i .i64, .i .i64], [.i .i64, .i .i64]], [.b], [], Ou.j .no, g_sl05Less⟩
theorem k_sl05Less : chkW PG E_sl05Less 305 s_sl05Less (c_sl05Less.ht 24) .no = some (c_sl05Less.wc E_sl05Less, [4]) := by kernel_rfl
theorem ok_sl05Less : p_sl05Less.Ok PG 305 := mkOk (env_nil PG) k_sl05Less (by kernel_rfl)
theorem e_sl05Less (n : Nat) (a0 : Int × Int) (a1 : Int × Int) : f_sl05Less n (a0, a1) =
  Option.bind (bif decide (a0.1 < a1.1) then
    some true
   else bif decide (a0.1 = a1.1) then
    some (decide (a0.2 < a1.2))
   else some false : Option (Bool)) fun x0 =>
  some (x0, ()) := by kernel_rfl
def c_sl05Edges : TC :=
 (.seq (.rg [o1 4 (.lit [.b] [.bool false])])
 (.seq (.join [] 68719476720 (some [⟨4, [.b], false⟩]) (.seq (.rg [o1 5 (.lit [.i .i64] [.int .i64 (0)])])
 (.block 0 (.loop [⟨5, [.i .i64], false⟩] 68719476720
  (.seq (.seq (.rg [o1 6 (.copy 5),
    o1 7 (.copy 1),
    o1 8 (.len 7),
    o1 9 (.data (.bin .lss) [.t 6, .t 8])])
  (.cond (.t 9)
   .skip
   (.exit 0)))
  (.seq (.join [] 68719472656 (some [⟨4, [.b], false⟩]) (.block 1 (.seq (.join [⟨35, [.b], false⟩] 68719472640 none (.rg [o1 12 (.copy 0),
    o1 13 (.copy 1),
    o1 14 (.copy 5),
    o1 15 (.index 13 (.t 14)),
    o1 16 (.load 13 [(0, 2)] 0 (.t 15) 2 false),
    o3 17 116 [.t 12, .t 16],
    o1 18 (.data .not [.t 17]),
    o1 19 (.copy 18),
    o2 20 (.copy 5) 7 false,
    o2 21 (.data (.bin .gtr) [.t 20, .c (.int .i64 (0))]) 7 false,
    o2 22 (.copy 21) 7 false,
    o2 23 (.copy 1) 10 true,
    o2 24 (.copy 5) 10 true,
    o2 25 (.data (.bin .sub) [.t 24, .c (.int .i64 (1))]) 10 true,
    o2 26 (.index 23 (.t 25)) 10 true,
    o2 27 (.load 23 [(0, 2)] 0 (.t 26) 2 false) 10 true,
    o2 28 (.copy 1) 10 true,
    o2 29 (.copy 5) 10 true,
    o2 30 (.index 28 (.t 29)) 10 true,
    o2 31 (.load 28 [(0, 2)] 0 (.t 30) 2 false) 10 true,
    ⟨false, [], [], .call 1 305 [.t 27, .t 31] .no, [32], (some 32), some (10, true)⟩,
    o2 33 (.data .not [.t 32]) 10 true,
    ⟨false, [], [], .pick 22 (.t 33) (.c (.bool false)), [34], (some 34), some (7, false)⟩,
    ⟨false, [], [], .pick 19 (.c (.bool true)) (.t 34), [35], (some 35), none⟩]))
  (.cond (.t 35)
   (.seq (.rg [o1 4 (.lit [.b] [.bool false])])
   .ret)
   .skip))))
  (.rg [o1 10 (.copy 5),
    o1 11 (.data (.bin .add) [.t 10, .c (.int .i64 (1))]),
    o1 5 (.copy 11)])))))))
 (.seq (.rg [o1 36 (.copy 1),
   o1 37 (.len 36),
   o1 38 (.data (.bin .leq) [.t 37, .c (.int .i64 (66))]),
   o1 4 (.copy 38)])
 .ret)))
def s_sl05Edges : Sig := ⟨[.rd false [.d], .rd false [.sl (.own none) [.d, .d]]], (.one false [.d])⟩
noncomputable def E_sl05Edges : TEnv := envOf [(116, p_sEdgeOk), (305, p_sl05Less)]
noncomputable def f_sl05Edges (n : Nat) : Int × (List (Int × Int)) → Option ((Bool) × Unit) := runFn n E_sl05Edges c_sl05Edges [[.i .i64], [.sl [.i .i64, .i .i64]]] [.b] [] [4] .no
noncomputable def g_sl05Edges := f_sl05Edges BIG
noncomputable def p_sl05Edges : TSp := ⟨s_sl05Edges, [[.i .i64], [.sl [.i .i64, .i .i64]]], [.b], [], Ou.j .no, g_sl05Edges⟩
theorem k_sl05Edges : chkW PG E_sl05Edges 233 s_sl05Edges (c_sl05Edges.ht 39) .no = some (c_sl05Edges.wc E_sl05Edges, [4]) := by kernel_rfl
theorem ok_sl05Edges : p_sl05Edges.Ok PG 233 := mkOk (env_cons ok_sEdgeOk (env_cons ok_sl05Less (env_nil PG))) k_sl05Edges (by kernel_rfl)
theorem e_sl05Edges (n : Nat) (a0 : Int) (a1 : List (Int × Int)) : f_sl05Edges n (a0, a1) =
  Option.bind (loopT n (X := Int) (B := (Unit) ⊕ (Bool)) (fun self1 x0 =>
    bif decide (x0 < (a1.length : Int)) then
     Option.bind (Option.bind (bnd a1.length x0 fun n2 =>
       Option.bind a1[n2]? fun y3 =>
       Option.bind (g_sEdgeOk (a0, y3)) fun r4 =>
       bif !r4.1 then
        some true
       else bif decide ((0 : Int) < x0) then
        bnd a1.length (IntKind.wrap .i64 (x0 - (1 : Int))) fun n5 =>
        Option.bind a1[n5]? fun y6 =>
        bnd a1.length x0 fun n7 =>
        Option.bind a1[n7]? fun y8 =>
        Option.bind (g_sl05Less (y6, y8)) fun r9 =>
        some !r9.1
       else some false : Option (Bool)) fun x10 =>
      bif x10 then
       some (Sum.inr false)
      else some (Sum.inl ()) : Option ((Unit) ⊕ (Bool))) fun y => match y with
     | .inl x11 =>
      self1 (IntKind.wrap .i64 (x0 + (1 : Int)))
     | .inr x11 =>
      some (Sum.inr x11)
    else some (Sum.inl ())) (0 : Int) : Option ((Unit) ⊕ (Bool))) fun y => match y with
  | .inl x12 =>
   some (decide ((a1.length : Int) ≤ (66 : Int)), ())
  | .inr x12 =>
   some (x12, ()) := by kernel_rfl
def c_sl09Labels : TC :=
 (.seq (.rg [o1 4 (.lit [.b] [.bool false])])
 (.seq (.seq (.rg [o1 6 (.copy 1),
   o1 7 (.len 6),
   o1 8 (.copy 0),
   o1 9 (.data (.bin .neq) [.t 7, .t 8])])
 (.cond (.t 9)
  (.seq (.rg [o1 4 (.lit [.b] [.bool false])])
  .ret)
  .skip))
 (.seq (.join [] 68719475760 (some [⟨4, [.b], false⟩]) (.seq (.rg [o1 5 (.lit [.i .i64] [.int .i64 (0)])])
 (.block 0 (.loop [⟨5, [.i .i64], false⟩] 68719475760
  (.seq (.seq (.rg [o1 10 (.copy 5),
    o1 11 (.copy 0),
    o1 12 (.data (.bin .lss) [.t 10, .t 11])])
  (.cond (.t 12)
   .skip
   (.exit 0)))
  (.seq (.join [] 68719443984 (some [⟨4, [.b], false⟩]) (.block 1 (.seq (.join [⟨35, [.b], false⟩] 68719443968 none (.rg [o1 15 (.copy 1),
    o1 16 (.copy 5),
    o1 17 (.index 15 (.t 16)),
    o1 18 (.load 15 [(0, 1)] 0 (.t 17) 1 false),
    o1 19 (.copy 5),
    o3 20 98 [.t 18, .c [.i .i64] [.int .i64 (0)], .t 19],
    o1 21 (.data .not [.t 20]),
    o1 22 (.copy 21),
    o2 23 (.copy 1) 7 false,
    o2 24 (.copy 1) 7 false,
    o2 25 (.copy 5) 7 false,
    o2 26 (.index 24 (.t 25)) 7 false,
    o2 27 (.load 24 [(0, 1)] 0 (.t 26) 1 false) 7 false,
    o2 28 (.index 23 (.t 27)) 7 false,
    o2 29 (.load 23 [(0, 1)] 0 (.t 28) 1 false) 7 false,
    o2 30 (.copy 1) 7 false,
    o2 31 (.copy 5) 7 false,
    o2 32 (.index 30 (.t 31)) 7 false,
    o2 33 (.load 30 [(0, 1)] 0 (.t 32) 1 false) 7 false,
    o2 34 (.data (.bin .neq) [.t 29, .t 33]) 7 false,
    ⟨false, [], [], .pick 22 (.c (.bool true)) (.t 34), [35], (some 35), none⟩]))
  (.cond (.t 35)
   (.seq (.rg [o1 4 (.lit [.b] [.bool false])])
   .ret)
   .skip))))
  (.rg [o1 13 (.copy 5),
    o1 14 (.data (.bin .add) [.t 13, .c (.int .i64 (1))]),
    o1 5 (.copy 14)])))))))
 (.seq (.rg [o1 4 (.lit [.b] [.bool true])])
 .ret))))
def s_sl09Labels : Sig := ⟨[.rd false [.d], .rd false [.sl (.own none) [.d]]], (.one false [.d])⟩
noncomputable def E_sl09Labels : TEnv := envOf [(98, p_sl01In)]
noncomputable def f_sl09Labels (n : Nat) : Int × List (Int) → Option ((Bool) × Unit) := runFn n E_sl09Labels c_sl09Labels [[.i .i64], [.sl [.i .i64]]] [.b] [] [4] .no
noncomputable def g_sl09Labels := f_sl09Labels BIG
noncomputable def p_sl09Labels : TSp := ⟨s_sl09Labels, [[.i .i64], [.sl [.i .i64]]], [.b], [], Ou.j .no, g_sl09Labels⟩
theorem k_sl09Labels : chkW PG E_sl09Labels 248 s_sl09Labels (c_sl09Labels.ht 36) .no = some (c_sl09Labels.wc E_sl09Labels, [4]) := by kernel_rfl
theorem ok_sl09Labels : p_sl09Labels.Ok PG 248 := mkOk (env_cons ok_sl01In (env_nil PG)) k_sl09Labels (by kernel_rfl)
theorem e_sl09Labels (n : Nat) (a0 : Int) (a1 : List (Int)) : f_sl09Labels n (a0, a1) =
  bif !decide ((a1.length : Int) = a0) then
   some (false, ())
  else Option.bind (loopT n (X := Int) (B := (Unit) ⊕ (Bool)) (fun self1 x0 =>
    bif decide (x0 < a0) then
     Option.bind (Option.bind (bnd a1.length x0 fun n2 =>
       Option.bind a1[n2]? fun y3 =>
       Option.bind (g_sl01In (y3, (0 : Int), x0)) fun r4 =>
       bif !r4.1 then
        some true
       else bnd a1.length x0 fun n5 =>
       Option.bind a1[n5]? fun y6 =>
       bnd a1.length y6 fun n7 =>
       Option.bind a1[n7]? fun y8 =>
       bnd a1.length x0 fun n9 =>
       Option.bind a1[n9]? fun y10 =>
       some (!decide (y8 = y10)) : Option (Bool)) fun x11 =>
      bif x11 then
       some (Sum.inr false)
      else some (Sum.inl ()) : Option ((Unit) ⊕ (Bool))) fun y => match y with
     | .inl x12 =>
      self1 (IntKind.wrap .i64 (x0 + (1 : Int)))
     | .inr x12 =>
      some (Sum.inr x12)
    else some (Sum.inl ())) (0 : Int) : Option ((Unit) ⊕ (Bool))) fun y => match y with
  | .inl x13 =>
   some (true, ())
  | .inr x13 =>
   some (x13, ()) := by kernel_rfl
def c_sAnswerOk : TC :=
 (.seq (.rg [o1 3 (.a (.t 1)),
   o1 4 (.lit [.b] [.bool false])])
 (.seq (.join [⟨4, [.b], false⟩] 16777200 none (.rg [o1 5 (.copy 0),
   o3 6 98 [.t 5, .c [.i .i64] [.int .i64 (1)], .c [.i .i64] [.int .i64 (12)]],
   o1 7 (.copy 6),
   o2 8 (.idx .nil) 2 true,
   o2 9 (.load 3 [] 0 (.t 8) 1 false) 2 true,
   ⟨false, [], [], .call 1 98 [.t 9, .c [.i .i64] [.int .i64 (1)], .c [.i .i64] [.int .i64 (100000)]] .no, [10], (some 10), some (2, true)⟩,
   ⟨false, [], [], .pick 7 (.t 10) (.c (.bool false)), [11], (some 11), none⟩,
   o1 12 (.copy 11),
   o2 13 (.copy 0) 7 true,
   o2 14 (.idx .nil) 7 true,
   o2 15 (.load 3 [] 2 (.t 14) 1 false) 7 true,
   ⟨false, [], [], .call 1 233 [.t 13, .t 15] .no, [16], (some 16), some (7, true)⟩,
   ⟨false, [], [], .pick 12 (.t 16) (.c (.bool false)), [17], (some 17), none⟩,
   o1 18 (.copy 17),
   o2 19 (.copy 0) 13 true,
   o2 20 (.idx .nil) 13 true,
   o2 21 (.load 3 [] 3 (.t 20) 1 false) 13 true,
   ⟨false, [], [], .call 1 248 [.t 19, .t 21] .no, [22], (some 22), some (13, true)⟩,
   ⟨false, [], [], .pick 18 (.t 22) (.c (.bool false)), [23], (some 23), none⟩,
   o1 4 (.copy 23)]))
 .ret))
def s_sAnswerOk : Sig := ⟨[.rd false [.d], .rd true [.d, .d, .sl (.own none) [.d, .d], .sl (.own none) [.d]]], (.one false [.d])⟩
noncomputable def E_sAnswerOk : TEnv := envOf [(98, p_sl01In), (233, p_sl05Edges), (248, p_sl09Labels)]
noncomputable def f_sAnswerOk (n : Nat) : Int × (Int × Bool × List (Int × Int) × List (Int)) → Option ((Bool) × Unit) := runFn n E_sAnswerOk c_sAnswerOk [[.i .i64], [.i .i64, .b, .sl [.i .i64, .i .i64], .sl [.i .i64]]] [.b] [] [4] .no
noncomputable def g_sAnswerOk := f_sAnswerOk BIG
noncomputable def p_sAnswerOk : TSp := ⟨s_sAnswerOk, [[.i .i64], [.i .i64, .b, .sl [.i .i64, .i .i64], .sl [.i .i64]]], [.b], [], Ou.j .no, g_sAnswerOk⟩
theorem k_sAnswerOk : chkW PG E_sAnswerOk 130 s_sAnswerOk (c_sAnswerOk.ht 24) .no = some (c_sAnswerOk.wc E_sAnswerOk, [4]) := by kernel_rfl
theorem ok_sAnswerOk : p_sAnswerOk.Ok PG 130 := mkOk (env_cons ok_sl01In (env_cons ok_sl05Edges (env_cons ok_sl09Labels (env_nil PG)))) k_sAnswerOk (by kernel_rfl)
theorem e_sAnswerOk (n : Nat) (a0 : Int) (a1 : Int × Bool × List (Int × Int) × List (Int)) : f_sAnswerOk n (a0, a1) =
  Option.bind (Option.bind (g_sl01In (a0, (1 : Int), (12 : Int))) fun r0 =>
   bif r0.1 then
    Option.bind (g_sl01In (a1.1, (1 : Int), (100000 : Int))) fun r1 =>
    bif r1.1 then
     Option.bind (g_sl05Edges (a0, a1.2.2.1)) fun r2 =>
     bif r2.1 then
      Option.bind (g_sl09Labels (a0, a1.2.2.2)) fun r3 =>
      some r3.1
     else some false
    else some false
   else some false : Option (Bool)) fun x4 =>
  some (x4, ()) := by kernel_rfl
def c_sl09Flag : TC :=
 (.seq (.rg [o1 2 (.lit [.s] [.string ⟨#[]⟩])])
 (.seq (.seq (.rg [o1 3 (.copy 0)])
 (.cond (.t 3)
  (.seq (.rg [o1 2 (.lit [.s] [.string ⟨#[1]⟩])])
  .ret)
  .skip))
 (.seq (.rg [o1 2 (.lit [.s] [.string ⟨#[0]⟩])])
 .ret)))
def s_sl09Flag : Sig := ⟨[.rd false [.d]], (.one false [.d])⟩
noncomputable def E_sl09Flag : TEnv := envOf []
noncomputable def f_sl09Flag (n : Nat) : Bool → Option ((ByteArray) × Unit) := runFn n E_sl09Flag c_sl09Flag [[.b]] [.s] [] [2] .no
noncomputable def g_sl09Flag := f_sl09Flag BIG
noncomputable def p_sl09Flag : TSp := ⟨s_sl09Flag, [[.b]], [.s], [], Ou.j .no, g_sl09Flag⟩
theorem k_sl09Flag : chkW PG E_sl09Flag 333 s_sl09Flag (c_sl09Flag.ht 4) .no = some (c_sl09Flag.wc E_sl09Flag, [2]) := by kernel_rfl
theorem ok_sl09Flag : p_sl09Flag.Ok PG 333 := mkOk (env_nil PG) k_sl09Flag (by kernel_rfl)
theorem e_sl09Flag (n : Nat) (a0 : Bool) : f_sl09Flag n a0 =
  bif a0 then
   some ((ByteArray.mk #[1]), ())
  else some ((ByteArray.mk #[0]), ()) := by kernel_rfl
def c_sl09Byte : TC :=
 (.seq (.rg [o1 2 (.lit [.s] [.string ⟨#[]⟩])])
 (.seq (.rg [o1 3 (.copy 0),
   o1 4 (.data (.conv .u8) [.t 3]),
   o1 5 (.sli [.i .u8] [.t 4]),
   o1 6 (.bytes 5),
   o1 2 (.copy 6)])
 .ret))
def s_sl09Byte : Sig := ⟨[.rd false [.d]], (.one false [.d])⟩
noncomputable def E_sl09Byte : TEnv := envOf []
noncomputable def f_sl09Byte (n : Nat) : Int → Option ((ByteArray) × Unit) := runFn n E_sl09Byte c_sl09Byte [[.i .i64]] [.s] [] [2] .no
noncomputable def g_sl09Byte := f_sl09Byte BIG
noncomputable def p_sl09Byte : TSp := ⟨s_sl09Byte, [[.i .i64]], [.s], [], Ou.j .no, g_sl09Byte⟩
theorem k_sl09Byte : chkW PG E_sl09Byte 335 s_sl09Byte (c_sl09Byte.ht 7) .no = some (c_sl09Byte.wc E_sl09Byte, [2]) := by kernel_rfl
theorem ok_sl09Byte : p_sl09Byte.Ok PG 335 := mkOk (env_nil PG) k_sl09Byte (by kernel_rfl)
theorem e_sl09Byte (n : Nat) (a0 : Int) : f_sl09Byte n a0 =
  some (bytesStr ([IntKind.wrap .u8 (a0)]), ()) := by kernel_rfl
def c_sl09Edges : TC :=
 (.seq (.rg [o1 2 (.lit [.s] [.string ⟨#[]⟩])])
 (.seq (.rg [o1 5 (.copy 0),
   o1 6 (.len 5),
   o3 7 262 [.t 6],
   o1 3 (.copy 7)])
 (.seq (.join [⟨3, [.s], false⟩] 536870680 none (.seq (.rg [o1 4 (.lit [.i .i64] [.int .i64 (0)])])
 (.block 0 (.loop [⟨3, [.s], false⟩, ⟨4, [.i .i64], false⟩] 536870680
  (.seq (.seq (.rg [o1 8 (.copy 4),
    o1 9 (.copy 0),
    o1 10 (.len 9),
    o1 11 (.data (.bin .lss) [.t 8, .t 10])])
  (.cond (.t 11)
   .skip
   (.exit 0)))
  (.seq (.block 1 (.rg [o1 14 (.copy 3),
    o1 15 (.copy 0),
    o1 16 (.copy 4),
    o1 17 (.index 15 (.t 16)),
    o1 18 (.idx (.t 17)),
    o1 19 (.load 15 [(0, 2)] 0 (.t 18) 1 false),
    o3 20 335 [.t 19],
    o1 21 (.data (.bin .add) [.t 14, .t 20]),
    o1 22 (.copy 0),
    o1 23 (.copy 4),
    o1 24 (.index 22 (.t 23)),
    o1 25 (.idx (.t 24)),
    o1 26 (.load 22 [(0, 2)] 1 (.t 25) 1 false),
    o3 27 335 [.t 26],
    o1 28 (.data (.bin .add) [.t 21, .t 27]),
    o1 3 (.copy 28)]))
  (.rg [o1 12 (.copy 4),
    o1 13 (.data (.bin .add) [.t 12, .c (.int .i64 (1))]),
    o1 4 (.copy 13)])))))))
 (.seq (.rg [o1 29 (.copy 3),
   o1 2 (.copy 29)])
 .ret))))
def s_sl09Edges : Sig := ⟨[.rd false [.sl (.own none) [.d, .d]]], (.one false [.d])⟩
noncomputable def E_sl09Edges : TEnv := envOf [(262, p_sl01Var), (335, p_sl09Byte)]
noncomputable def f_sl09Edges (n : Nat) : (List (Int × Int)) → Option ((ByteArray) × Unit) := runFn n E_sl09Edges c_sl09Edges [[.sl [.i .i64, .i .i64]]] [.s] [] [2] .no
noncomputable def g_sl09Edges := f_sl09Edges BIG
noncomputable def p_sl09Edges : TSp := ⟨s_sl09Edges, [[.sl [.i .i64, .i .i64]]], [.s], [], Ou.j .no, g_sl09Edges⟩
theorem k_sl09Edges : chkW PG E_sl09Edges 334 s_sl09Edges (c_sl09Edges.ht 30) .no = some (c_sl09Edges.wc E_sl09Edges, [2]) := by kernel_rfl
theorem ok_sl09Edges : p_sl09Edges.Ok PG 334 := mkOk (env_cons ok_sl01Var (env_cons ok_sl09Byte (env_nil PG))) k_sl09Edges (by kernel_rfl)
theorem e_sl09Edges (n : Nat) (a0 : List (Int × Int)) : f_sl09Edges n a0 =
  Option.bind (g_sl01Var (a0.length : Int)) fun r0 =>
  Option.bind (loopT n (X := ByteArray × Int) (B := ByteArray) (fun self2 x1 =>
    bif decide (x1.2 < (a0.length : Int)) then
     bnd a0.length x1.2 fun n3 =>
     Option.bind a0[n3]? fun y4 =>
     Option.bind (g_sl09Byte y4.1) fun r5 =>
     bif decide (x1.1.size + r5.1.size ≤ 4611686018427387904) then
      bnd a0.length x1.2 fun n6 =>
      Option.bind a0[n6]? fun y7 =>
      Option.bind (g_sl09Byte y7.2) fun r8 =>
      bif decide ((x1.1 ++ r5.1).size + r8.1.size ≤ 4611686018427387904) then
       self2 ((x1.1 ++ r5.1) ++ r8.1, IntKind.wrap .i64 (x1.2 + (1 : Int)))
      else none
     else none
    else some x1.1) (r0.1, (0 : Int)) : Option (ByteArray)) fun x9 =>
  some (x9, ()) := by kernel_rfl
def c_sAnswerText : TC :=
 (.seq (.rg [o1 3 (.a (.t 1)),
   o1 4 (.lit [.s] [.string ⟨#[]⟩]),
   o1 5 (.lit [.b] [.bool false])])
 (.seq (.seq (.rg [o1 8 (.copy 0),
   o1 9 (.load 3 [] 0 .nil 4 false),
   o3 10 130 [.t 8, .t 9],
   o1 11 (.data .not [.t 10])])
 (.cond (.t 11)
  (.seq (.rg [o1 4 (.lit [.s] [.string ⟨#[]⟩]),
    o1 5 (.lit [.b] [.bool false])])
  .ret)
  .skip))
 (.seq (.rg [o1 12 (.idx .nil),
   o1 13 (.load 3 [] 0 (.t 12) 1 false),
   o3 14 262 [.t 13],
   o1 15 (.idx .nil),
   o1 16 (.load 3 [] 1 (.t 15) 1 false),
   o3 17 333 [.t 16],
   o1 18 (.data (.bin .add) [.t 14, .t 17]),
   o1 19 (.idx .nil),
   o1 20 (.load 3 [] 2 (.t 19) 1 false),
   o3 21 334 [.t 20],
   o1 22 (.data (.bin .add) [.t 18, .t 21]),
   o1 6 (.copy 22)])
 (.seq (.join [⟨6, [.s], false⟩] 68711088320 none (.seq (.rg [o1 7 (.lit [.i .i64] [.int .i64 (0)])])
 (.block 0 (.loop [⟨6, [.s], false⟩, ⟨7, [.i .i64], false⟩] 68711088320
  (.seq (.seq (.rg [o1 23 (.copy 7),
    o1 24 (.copy 0),
    o1 25 (.data (.bin .lss) [.t 23, .t 24])])
  (.cond (.t 25)
   .skip
   (.exit 0)))
  (.seq (.block 1 (.rg [o1 28 (.copy 6),
    o1 29 (.idx .nil),
    o1 30 (.load 3 [] 3 (.t 29) 1 false),
    o1 31 (.copy 7),
    o1 32 (.index 30 (.t 31)),
    o1 33 (.load 30 [(0, 1)] 0 (.t 32) 1 false),
    o3 34 335 [.t 33],
    o1 35 (.data (.bin .add) [.t 28, .t 34]),
    o1 6 (.copy 35)]))
  (.rg [o1 26 (.copy 7),
    o1 27 (.data (.bin .add) [.t 26, .c (.int .i64 (1))]),
    o1 7 (.copy 27)])))))))
 (.seq (.rg [o1 36 (.copy 6),
   o1 4 (.copy 36),
   o1 5 (.lit [.b] [.bool true])])
 .ret)))))
def s_sAnswerText : Sig := ⟨[.rd false [.d], .rd true [.d, .d, .sl (.own none) [.d, .d], .sl (.own none) [.d]]], (.tup [(false, 1), (false, 1)] [.d, .d])⟩
noncomputable def E_sAnswerText : TEnv := envOf [(130, p_sAnswerOk), (262, p_sl01Var), (333, p_sl09Flag), (334, p_sl09Edges), (335, p_sl09Byte)]
noncomputable def f_sAnswerText (n : Nat) : Int × (Int × Bool × List (Int × Int) × List (Int)) → Option ((ByteArray × Bool) × Unit) := runFn n E_sAnswerText c_sAnswerText [[.i .i64], [.i .i64, .b, .sl [.i .i64, .i .i64], .sl [.i .i64]]] [.s, .b] [] [4, 5] .no
noncomputable def g_sAnswerText := f_sAnswerText BIG
noncomputable def p_sAnswerText : TSp := ⟨s_sAnswerText, [[.i .i64], [.i .i64, .b, .sl [.i .i64, .i .i64], .sl [.i .i64]]], [.s, .b], [], Ou.j .no, g_sAnswerText⟩
theorem k_sAnswerText : chkW PG E_sAnswerText 316 s_sAnswerText (c_sAnswerText.ht 37) .no = some (c_sAnswerText.wc E_sAnswerText, [4, 5]) := by kernel_rfl
theorem ok_sAnswerText : p_sAnswerText.Ok PG 316 := mkOk (env_cons ok_sAnswerOk (env_cons ok_sl01Var (env_cons ok_sl09Flag (env_cons ok_sl09Edges (env_cons ok_sl09Byte (env_nil PG)))))) k_sAnswerText (by kernel_rfl)
theorem e_sAnswerText (n : Nat) (a0 : Int) (a1 : Int × Bool × List (Int × Int) × List (Int)) : f_sAnswerText n (a0, a1) =
  Option.bind (g_sAnswerOk (a0, a1)) fun r0 =>
  bif !r0.1 then
   some (((ByteArray.mk #[]), false), ())
  else Option.bind (g_sl01Var a1.1) fun r1 =>
  Option.bind (g_sl09Flag a1.2.1) fun r2 =>
  bif decide (r1.1.size + r2.1.size ≤ 4611686018427387904) then
   Option.bind (g_sl09Edges a1.2.2.1) fun r3 =>
   bif decide ((r1.1 ++ r2.1).size + r3.1.size ≤ 4611686018427387904) then
    Option.bind (loopT n (X := ByteArray × Int) (B := ByteArray) (fun self5 x4 =>
      bif decide (x4.2 < a0) then
       bnd a1.2.2.2.length x4.2 fun n6 =>
       Option.bind a1.2.2.2[n6]? fun y7 =>
       Option.bind (g_sl09Byte y7) fun r8 =>
       bif decide (x4.1.size + r8.1.size ≤ 4611686018427387904) then
        self5 (x4.1 ++ r8.1, IntKind.wrap .i64 (x4.2 + (1 : Int)))
       else none
      else some x4.1) ((r1.1 ++ r2.1) ++ r3.1, (0 : Int)) : Option (ByteArray)) fun x9 =>
    some ((x9, true), ())
   else none
  else none := by kernel_rfl
def c_sReadAnswer : TC :=
 (.seq (.rg [⟨false, [], [], .det 2 (.a (.c [.i .i64, .b, .sl [.i .i64, .i .i64], .sl [.i .i64]] [.int .i64 (0), .bool false, .slice none 0 0, .slice none 0 0])), [4, 1000000001], (some 4), none⟩,
   o1 5 (.lit [.b] [.bool false])])
 (.seq (.rg [o1 11 (.copy 1),
   o1 12 (.build [.s, .i .i64, .b] [(0, .t 11)]),
   o1 13 (.a (.t 12)),
   o1 6 (.p0)])
 (.seq (.rg [o1 14 (.same 6),
   ⟨false, [], [], .call 2 257 [.t 13] (.mp 0), [15, 13], (some 15), none⟩,
   o1 16 (.build [.i .i64, .b, .sl [.i .i64, .i .i64], .sl [.i .i64]] [(0, .t 15)]),
   ⟨false, [], [], .det 2 (.a (.c [.i .i64, .b, .sl [.i .i64, .i .i64], .sl [.i .i64]] [.int .i64 (0), .bool false, .slice none 0 0, .slice none 0 0])), [7, 1000000001], (some 7), none⟩,
   o4 2 [7, 16] (.store 7 [] 0 .nil (.t 16))])
 (.seq (.rg [o1 17 (.same 6),
   ⟨false, [], [], .call 2 256 [.t 13] (.mp 0), [18, 13], (some 18), none⟩,
   o1 19 (.data (.bin .eql) [.t 18, .c (.int .i64 (1))]),
   o1 20 (.idx .nil),
   o4 1 [7] (.store 7 [] 1 (.t 20) (.t 19))])
 (.seq (.rg [o1 21 (.same 6),
   ⟨false, [], [], .call 2 315 [.t 13] (.mp 0), [22, 13], (some 22), none⟩,
   o1 23 (.idx .nil),
   o4 2 [7, 22] (.store 7 [] 2 (.t 23) (.t 22))])
 (.seq (.join [⟨13, [.s, .i .i64, .b], false⟩, ⟨7, [.i .i64, .b, .sl [.i .i64, .i .i64], .sl [.i .i64]], false⟩] 140737471586688 none (.seq (.rg [o1 8 (.lit [.i .i64] [.int .i64 (0)])])
 (.block 0 (.loop [⟨13, [.s, .i .i64, .b], false⟩, ⟨7, [.i .i64, .b, .sl [.i .i64, .i .i64], .sl [.i .i64]], false⟩, ⟨8, [.i .i64], false⟩] 140737471586688
  (.seq (.seq (.join [⟨37, [.b], false⟩] 274861129728 none (.rg [o1 24 (.copy 8),
    o1 25 (.copy 0),
    o1 26 (.data (.bin .lss) [.t 24, .t 25]),
    o1 27 (.copy 26),
    o2 28 (.copy 8) 3 true,
    o2 29 (.data (.bin .lss) [.t 28, .c (.int .i64 (12))]) 3 true,
    ⟨false, [], [], .pick 27 (.t 29) (.c (.bool false)), [30], (some 30), none⟩,
    o1 31 (.copy 30),
    o2 32 (.same 6) 7 true,
    o2 33 (.same 32) 7 true,
    o2 34 (.idx (.t 33)) 7 true,
    o2 35 (.load 13 [] 2 (.t 34) 1 false) 7 true,
    o2 36 (.data .not [.t 35]) 7 true,
    ⟨false, [], [], .pick 31 (.t 36) (.c (.bool false)), [37], (some 37), none⟩]))
  (.cond (.t 37)
   .skip
   (.exit 0)))
  (.seq (.block 1 (.rg [⟨false, [], [13], .det 1 (.idx .nil), [40], (some 40), none⟩,
    ⟨false, [], [13], .det 1 (.load 7 [] 3 (.t 40) 1 true), [41], (some 41), none⟩,
    o1 42 (.same 6),
    ⟨false, [], [], .call 2 256 [.t 13] (.mp 0), [43, 13], (some 43), none⟩,
    o1 44 (.sli [.i .i64] [.t 43]),
    ⟨false, [41], [], .det 2 (.app (some 41) 44), [45, 41, 41, 7], (some 45), none⟩,
    o1 46 (.idx .nil),
    o4 2 [7, 45, 41] (.store 7 [] 3 (.t 46) (.t 45))]))
  (.rg [o1 38 (.copy 8),
    o1 39 (.data (.bin .add) [.t 38, .c (.int .i64 (1))]),
    o1 8 (.copy 39)])))))))
 (.seq (.rg [o1 48 (.copy 0),
   o1 49 (.load 7 [] 0 .nil 4 true),
   o3 50 316 [.t 48, .t 49],
   ⟨false, [], [], .det 2 (.copy 50), [47, 50], (some 47), none⟩,
   o1 51 (.ext 47 0 1),
   o1 52 (.ext 47 1 1),
   o1 9 (.copy 51),
   o1 10 (.copy 52)])
 (.seq (.seq (.join [⟨65, [.b], false⟩] 73777969095583465472 none (.rg [o1 53 (.same 6),
   o1 54 (.same 53),
   o1 55 (.idx (.t 54)),
   o1 56 (.load 13 [] 2 (.t 55) 1 false),
   o1 57 (.copy 56),
   o2 58 (.copy 10) 4 false,
   o2 59 (.data .not [.t 58]) 4 false,
   ⟨false, [], [], .pick 57 (.c (.bool true)) (.t 59), [60], (some 60), none⟩,
   o1 61 (.copy 60),
   o2 62 (.copy 9) 8 false,
   o2 63 (.copy 1) 8 false,
   o2 64 (.data (.bin .neq) [.t 62, .t 63]) 8 false,
   ⟨false, [], [], .pick 61 (.c (.bool true)) (.t 64), [65], (some 65), none⟩]))
 (.cond (.t 65)
  (.seq (.rg [o1 66 (.build [.i .i64, .b, .sl [.i .i64, .i .i64], .sl [.i .i64]] []),
    o4 2 [4, 66] (.store 4 [] 0 .nil (.t 66)),
    o1 5 (.lit [.b] [.bool false])])
  .ret)
  .skip))
 (.seq (.rg [o1 67 (.load 7 [] 0 .nil 4 true),
   ⟨false, [67], [], .det 2 (.store 4 [] 0 .nil (.t 67)), [4, 67, 67, 7, 49], none, none⟩,
   o1 5 (.lit [.b] [.bool true])])
 .ret)))))))))
def s_sReadAnswer : Sig := ⟨[.rd false [.d], .rd false [.d]], (.tup [(true, 4), (false, 1)] [.d, .d, .sl (.own none) [.d, .d], .sl (.own none) [.d], .d])⟩
noncomputable def E_sReadAnswer : TEnv := envOf [(257, p_sl09Var), (256, p_sl09One), (315, p_sl09ReadEdges), (316, p_sAnswerText)]
noncomputable def f_sReadAnswer (n : Nat) : Int × ByteArray → Option ((Int × Bool × List (Int × Int) × List (Int) × Bool) × Unit) := runFn n E_sReadAnswer c_sReadAnswer [[.i .i64], [.s]] [.i .i64, .b, .sl [.i .i64, .i .i64], .sl [.i .i64], .b] [] [4, 5] .no
noncomputable def g_sReadAnswer := f_sReadAnswer BIG
noncomputable def p_sReadAnswer : TSp := ⟨s_sReadAnswer, [[.i .i64], [.s]], [.i .i64, .b, .sl [.i .i64, .i .i64], .sl [.i .i64], .b], [], Ou.j .no, g_sReadAnswer⟩
theorem k_sReadAnswer : chkW PG E_sReadAnswer 258 s_sReadAnswer (c_sReadAnswer.ht 68) .no = some (c_sReadAnswer.wc E_sReadAnswer, [4, 5]) := by kernel_rfl
theorem ok_sReadAnswer : p_sReadAnswer.Ok PG 258 := mkOk (env_cons ok_sl09Var (env_cons ok_sl09One (env_cons ok_sl09ReadEdges (env_cons ok_sAnswerText (env_nil PG))))) k_sReadAnswer (by kernel_rfl)
theorem e_sReadAnswer (n : Nat) (a0 : Int) (a1 : ByteArray) : f_sReadAnswer n (a0, a1) =
  Option.bind (g_sl09Var (a1, (0 : Int), false)) fun r0 =>
  Option.bind (g_sl09One r0.2) fun r1 =>
  Option.bind (g_sl09ReadEdges r1.2) fun r2 =>
  Option.bind (loopT n (X := (ByteArray × Int × Bool) × (Int × Bool × List (Int × Int) × List (Int)) × Int) (B := (ByteArray × Int × Bool) × (Int × Bool × List (Int × Int) × List (Int))) (fun self4 x3 =>
    Option.bind (bif decide (x3.2.2 < a0) then
      bif decide (x3.2.2 < (12 : Int)) then
       some !x3.1.2.2
      else some false
     else some false : Option (Bool)) fun x5 =>
    bif x5 then
     Option.bind (g_sl09One x3.1) fun r6 =>
     bif decide (x3.2.1.2.2.2.length + [r6.1].length ≤ 4294967296) then
      self4 (r6.2, (x3.2.1.1, x3.2.1.2.1, x3.2.1.2.2.1, x3.2.1.2.2.2 ++ [r6.1]), IntKind.wrap .i64 (x3.2.2 + (1 : Int)))
     else none
    else some (x3.1, x3.2.1)) (r2.2, (r0.1, decide (r1.1 = (1 : Int)), r2.1, []), (0 : Int)) : Option ((ByteArray × Int × Bool) × (Int × Bool × List (Int × Int) × List (Int)))) fun x7 =>
  Option.bind (g_sAnswerText (a0, x7.2)) fun r8 =>
  Option.bind (bif x7.1.2.2 then
    some true
   else bif !r8.1.2 then
    some true
   else some (!(r8.1.1.toList == a1.toList)) : Option (Bool)) fun x9 =>
  bif x9 then
   some (((0 : Int), false, [], [], false), ())
  else some ((x7.2.1, x7.2.2.1, x7.2.2.2.1, x7.2.2.2.2, true), ()) := by kernel_rfl
def c_sOrderOk : TC :=
 (.seq (.rg [o1 3 (.a (.t 1)),
   o1 4 (.lit [.b] [.bool false])])
 (.seq (.seq (.join [⟨26, [.b], false⟩] 134217696 none (.rg [o1 5 (.copy 0),
   o3 6 98 [.t 5, .c [.i .i64] [.int .i64 (1)], .c [.i .i64] [.int .i64 (12)]],
   o1 7 (.data .not [.t 6]),
   o1 8 (.copy 7),
   o2 9 (.idx .nil) 3 false,
   o2 10 (.load 3 [] 0 (.t 9) 1 false) 3 false,
   ⟨false, [], [], .call 1 98 [.t 10, .c [.i .i64] [.int .i64 (1)], .c [.i .i64] [.int .i64 (100000)]] .no, [11], (some 11), some (3, false)⟩,
   o2 12 (.data .not [.t 11]) 3 false,
   ⟨false, [], [], .pick 8 (.c (.bool true)) (.t 12), [13], (some 13), none⟩,
   o1 14 (.copy 13),
   o2 15 (.idx .nil) 9 false,
   o2 16 (.load 3 [] 1 (.t 15) 1 false) 9 false,
   ⟨false, [], [], .call 1 98 [.t 16, .c [.i .i64] [.int .i64 (1)], .c [.i .i64] [.int .i64 (4)]] .no, [17], (some 17), some (9, false)⟩,
   o2 18 (.data .not [.t 17]) 9 false,
   ⟨false, [], [], .pick 14 (.c (.bool true)) (.t 18), [19], (some 19), none⟩,
   o1 20 (.copy 19),
   o2 21 (.copy 0) 15 false,
   o2 22 (.idx .nil) 15 false,
   o2 23 (.load 3 [] 2 (.t 22) 1 false) 15 false,
   ⟨false, [], [], .call 1 233 [.t 21, .t 23] .no, [24], (some 24), some (15, false)⟩,
   o2 25 (.data .not [.t 24]) 15 false,
   ⟨false, [], [], .pick 20 (.c (.bool true)) (.t 25), [26], (some 26), none⟩]))
 (.cond (.t 26)
  (.seq (.rg [o1 4 (.lit [.b] [.bool false])])
  .ret)
  .skip))
 (.seq (.seq (.rg [o1 27 (.idx .nil),
   o1 28 (.load 3 [] 1 (.t 27) 1 false)])
 (.block 0 (.seq (.rg [o1 30 (.data (.bin .eql) [.t 28, .c (.int .i64 (3))]),
   o1 29 (.copy 30)])
 (.cond (.t 29)
  (.seq (.join [⟨4, [.b], false⟩] 4395899027472 none (.rg [o1 31 (.idx .nil),
    o1 32 (.load 3 [] 2 (.t 31) 1 false),
    o1 33 (.len 32),
    o1 34 (.data (.bin .eql) [.t 33, .c (.int .i64 (0))]),
    o1 35 (.copy 34),
    o2 36 (.idx .nil) 4 true,
    o2 37 (.load 3 [] 3 (.t 36) 1 false) 4 true,
    o2 38 (.copy 0) 4 true,
    o2 39 (.data (.bin .sub) [.t 38, .c (.int .i64 (1))]) 4 true,
    ⟨false, [], [], .call 1 98 [.t 37, .c [.i .i64] [.int .i64 (0)], .t 39] .no, [40], (some 40), some (4, true)⟩,
    ⟨false, [], [], .pick 35 (.t 40) (.c (.bool false)), [41], (some 41), none⟩,
    o1 4 (.copy 41)]))
  .ret)
  (.seq (.rg [o1 43 (.data (.bin .eql) [.t 28, .c (.int .i64 (4))]),
    o1 42 (.copy 43)])
  (.cond (.t 42)
   (.seq (.join [⟨4, [.b], false⟩] 8989607068696592 none (.rg [o1 44 (.idx .nil),
     o1 45 (.load 3 [] 2 (.t 44) 1 false),
     o1 46 (.len 45),
     o1 47 (.data (.bin .gtr) [.t 46, .c (.int .i64 (0))]),
     o1 48 (.copy 47),
     o2 49 (.idx .nil) 4 true,
     o2 50 (.load 3 [] 3 (.t 49) 1 false) 4 true,
     o2 51 (.data (.bin .eql) [.t 50, .c (.int .i64 (0))]) 4 true,
     ⟨false, [], [], .pick 48 (.t 51) (.c (.bool false)), [52], (some 52), none⟩,
     o1 4 (.copy 52)]))
   .ret)
   .skip))))))
 (.seq (.join [⟨4, [.b], false⟩] 4602678819172646928 none (.rg [o1 53 (.idx .nil),
   o1 54 (.load 3 [] 2 (.t 53) 1 false),
   o1 55 (.len 54),
   o1 56 (.data (.bin .eql) [.t 55, .c (.int .i64 (1))]),
   o1 57 (.copy 56),
   o2 58 (.idx .nil) 4 true,
   o2 59 (.load 3 [] 3 (.t 58) 1 false) 4 true,
   o2 60 (.data (.bin .eql) [.t 59, .c (.int .i64 (0))]) 4 true,
   ⟨false, [], [], .pick 57 (.t 60) (.c (.bool false)), [61], (some 61), none⟩,
   o1 4 (.copy 61)]))
 .ret))))
def s_sOrderOk : Sig := ⟨[.rd false [.d], .rd true [.d, .d, .sl (.own none) [.d, .d], .d]], (.one false [.d])⟩
noncomputable def E_sOrderOk : TEnv := envOf [(98, p_sl01In), (233, p_sl05Edges)]
noncomputable def f_sOrderOk (n : Nat) : Int × (Int × Int × List (Int × Int) × Int) → Option ((Bool) × Unit) := runFn n E_sOrderOk c_sOrderOk [[.i .i64], [.i .i64, .i .i64, .sl [.i .i64, .i .i64], .i .i64]] [.b] [] [4] .no
noncomputable def g_sOrderOk := f_sOrderOk BIG
noncomputable def p_sOrderOk : TSp := ⟨s_sOrderOk, [[.i .i64], [.i .i64, .i .i64, .sl [.i .i64, .i .i64], .i .i64]], [.b], [], Ou.j .no, g_sOrderOk⟩
theorem k_sOrderOk : chkW PG E_sOrderOk 331 s_sOrderOk (c_sOrderOk.ht 62) .no = some (c_sOrderOk.wc E_sOrderOk, [4]) := by kernel_rfl
theorem ok_sOrderOk : p_sOrderOk.Ok PG 331 := mkOk (env_cons ok_sl01In (env_cons ok_sl05Edges (env_nil PG))) k_sOrderOk (by kernel_rfl)
theorem e_sOrderOk (n : Nat) (a0 : Int) (a1 : Int × Int × List (Int × Int) × Int) : f_sOrderOk n (a0, a1) =
  Option.bind (Option.bind (g_sl01In (a0, (1 : Int), (12 : Int))) fun r0 =>
   bif !r0.1 then
    some true
   else Option.bind (g_sl01In (a1.1, (1 : Int), (100000 : Int))) fun r1 =>
   bif !r1.1 then
    some true
   else Option.bind (g_sl01In (a1.2.1, (1 : Int), (4 : Int))) fun r2 =>
   bif !r2.1 then
    some true
   else Option.bind (g_sl05Edges (a0, a1.2.2.1)) fun r3 =>
   some !r3.1 : Option (Bool)) fun x4 =>
  bif x4 then
   some (false, ())
  else bif decide (a1.2.1 = (3 : Int)) then
   Option.bind (bif decide ((a1.2.2.1.length : Int) = (0 : Int)) then
     Option.bind (g_sl01In (a1.2.2.2, (0 : Int), IntKind.wrap .i64 (a0 - (1 : Int)))) fun r5 =>
     some r5.1
    else some false : Option (Bool)) fun x6 =>
   some (x6, ())
  else bif decide (a1.2.1 = (4 : Int)) then
   Option.bind (bif decide ((0 : Int) < (a1.2.2.1.length : Int)) then
     some (decide (a1.2.2.2 = (0 : Int)))
    else some false : Option (Bool)) fun x7 =>
   some (x7, ())
  else Option.bind (bif decide ((a1.2.2.1.length : Int) = (1 : Int)) then
    some (decide (a1.2.2.2 = (0 : Int)))
   else some false : Option (Bool)) fun x8 =>
  some (x8, ()) := by kernel_rfl
def c_sOrderText : TC :=
 (.seq (.rg [o1 3 (.a (.t 1)),
   o1 4 (.lit [.s] [.string ⟨#[]⟩]),
   o1 5 (.lit [.b] [.bool false])])
 (.seq (.seq (.rg [o1 6 (.copy 0),
   o1 7 (.load 3 [] 0 .nil 4 false),
   o3 8 331 [.t 6, .t 7],
   o1 9 (.data .not [.t 8])])
 (.cond (.t 9)
  (.seq (.rg [o1 4 (.lit [.s] [.string ⟨#[]⟩]),
    o1 5 (.lit [.b] [.bool false])])
  .ret)
  .skip))
 (.seq (.rg [o1 10 (.idx .nil),
   o1 11 (.load 3 [] 0 (.t 10) 1 false),
   o3 12 262 [.t 11],
   o1 13 (.idx .nil),
   o1 14 (.load 3 [] 1 (.t 13) 1 false),
   o3 15 335 [.t 14],
   o1 16 (.data (.bin .add) [.t 12, .t 15]),
   o1 17 (.idx .nil),
   o1 18 (.load 3 [] 3 (.t 17) 1 false),
   o3 19 262 [.t 18],
   o1 20 (.data (.bin .add) [.t 16, .t 19]),
   o1 21 (.idx .nil),
   o1 22 (.load 3 [] 2 (.t 21) 1 false),
   o3 23 334 [.t 22],
   o1 24 (.data (.bin .add) [.t 20, .t 23]),
   o1 4 (.copy 24),
   o1 5 (.lit [.b] [.bool true])])
 .ret)))
def s_sOrderText : Sig := ⟨[.rd false [.d], .rd true [.d, .d, .sl (.own none) [.d, .d], .d]], (.tup [(false, 1), (false, 1)] [.d, .d])⟩
noncomputable def E_sOrderText : TEnv := envOf [(331, p_sOrderOk), (262, p_sl01Var), (335, p_sl09Byte), (334, p_sl09Edges)]
noncomputable def f_sOrderText (n : Nat) : Int × (Int × Int × List (Int × Int) × Int) → Option ((ByteArray × Bool) × Unit) := runFn n E_sOrderText c_sOrderText [[.i .i64], [.i .i64, .i .i64, .sl [.i .i64, .i .i64], .i .i64]] [.s, .b] [] [4, 5] .no
noncomputable def g_sOrderText := f_sOrderText BIG
noncomputable def p_sOrderText : TSp := ⟨s_sOrderText, [[.i .i64], [.i .i64, .i .i64, .sl [.i .i64, .i .i64], .i .i64]], [.s, .b], [], Ou.j .no, g_sOrderText⟩
theorem k_sOrderText : chkW PG E_sOrderText 317 s_sOrderText (c_sOrderText.ht 25) .no = some (c_sOrderText.wc E_sOrderText, [4, 5]) := by kernel_rfl
theorem ok_sOrderText : p_sOrderText.Ok PG 317 := mkOk (env_cons ok_sOrderOk (env_cons ok_sl01Var (env_cons ok_sl09Byte (env_cons ok_sl09Edges (env_nil PG))))) k_sOrderText (by kernel_rfl)
theorem e_sOrderText (n : Nat) (a0 : Int) (a1 : Int × Int × List (Int × Int) × Int) : f_sOrderText n (a0, a1) =
  Option.bind (g_sOrderOk (a0, a1)) fun r0 =>
  bif !r0.1 then
   some (((ByteArray.mk #[]), false), ())
  else Option.bind (g_sl01Var a1.1) fun r1 =>
  Option.bind (g_sl09Byte a1.2.1) fun r2 =>
  bif decide (r1.1.size + r2.1.size ≤ 4611686018427387904) then
   Option.bind (g_sl01Var a1.2.2.2) fun r3 =>
   bif decide ((r1.1 ++ r2.1).size + r3.1.size ≤ 4611686018427387904) then
    Option.bind (g_sl09Edges a1.2.2.1) fun r4 =>
    bif decide (((r1.1 ++ r2.1) ++ r3.1).size + r4.1.size ≤ 4611686018427387904) then
     some ((((r1.1 ++ r2.1) ++ r3.1) ++ r4.1, true), ())
    else none
   else none
  else none := by kernel_rfl
def c_sReadOrder : TC :=
 (.seq (.rg [⟨false, [], [], .det 2 (.a (.c [.i .i64, .i .i64, .sl [.i .i64, .i .i64], .i .i64] [.int .i64 (0), .int .i64 (0), .slice none 0 0, .int .i64 (0)])), [4, 1000000001], (some 4), none⟩,
   o1 5 (.lit [.b] [.bool false])])
 (.seq (.rg [o1 10 (.copy 1),
   o1 11 (.build [.s, .i .i64, .b] [(0, .t 10)]),
   o1 12 (.a (.t 11)),
   o1 6 (.p0)])
 (.seq (.rg [o1 13 (.same 6),
   ⟨false, [], [], .call 2 257 [.t 12] (.mp 0), [14, 12], (some 14), none⟩,
   o1 15 (.build [.i .i64, .i .i64, .sl [.i .i64, .i .i64], .i .i64] [(0, .t 14)]),
   ⟨false, [], [], .det 2 (.a (.c [.i .i64, .i .i64, .sl [.i .i64, .i .i64], .i .i64] [.int .i64 (0), .int .i64 (0), .slice none 0 0, .int .i64 (0)])), [7, 1000000001], (some 7), none⟩,
   o4 2 [7, 15] (.store 7 [] 0 .nil (.t 15))])
 (.seq (.rg [o1 16 (.same 6),
   ⟨false, [], [], .call 2 256 [.t 12] (.mp 0), [17, 12], (some 17), none⟩,
   o1 18 (.idx .nil),
   o4 1 [7] (.store 7 [] 1 (.t 18) (.t 17))])
 (.seq (.rg [o1 19 (.same 6),
   ⟨false, [], [], .call 2 257 [.t 12] (.mp 0), [20, 12], (some 20), none⟩,
   o1 21 (.idx .nil),
   o4 1 [7] (.store 7 [] 3 (.t 21) (.t 20))])
 (.seq (.rg [o1 22 (.same 6),
   ⟨false, [], [], .call 2 315 [.t 12] (.mp 0), [23, 12], (some 23), none⟩,
   o1 24 (.idx .nil),
   o4 2 [7, 23] (.store 7 [] 2 (.t 24) (.t 23))])
 (.seq (.rg [o1 26 (.copy 0),
   o1 27 (.load 7 [] 0 .nil 4 true),
   o3 28 317 [.t 26, .t 27],
   ⟨false, [], [], .det 2 (.copy 28), [25, 28], (some 25), none⟩,
   o1 29 (.ext 25 0 1),
   o1 30 (.ext 25 1 1),
   o1 8 (.copy 29),
   o1 9 (.copy 30)])
 (.seq (.seq (.join [⟨43, [.b], false⟩] 17590038560768 none (.rg [o1 31 (.same 6),
   o1 32 (.same 31),
   o1 33 (.idx (.t 32)),
   o1 34 (.load 12 [] 2 (.t 33) 1 false),
   o1 35 (.copy 34),
   o2 36 (.copy 9) 4 false,
   o2 37 (.data .not [.t 36]) 4 false,
   ⟨false, [], [], .pick 35 (.c (.bool true)) (.t 37), [38], (some 38), none⟩,
   o1 39 (.copy 38),
   o2 40 (.copy 8) 8 false,
   o2 41 (.copy 1) 8 false,
   o2 42 (.data (.bin .neq) [.t 40, .t 41]) 8 false,
   ⟨false, [], [], .pick 39 (.c (.bool true)) (.t 42), [43], (some 43), none⟩]))
 (.cond (.t 43)
  (.seq (.rg [o1 44 (.build [.i .i64, .i .i64, .sl [.i .i64, .i .i64], .i .i64] []),
    o4 2 [4, 44] (.store 4 [] 0 .nil (.t 44)),
    o1 5 (.lit [.b] [.bool false])])
  .ret)
  .skip))
 (.seq (.rg [o1 45 (.load 7 [] 0 .nil 4 true),
   ⟨false, [45], [], .det 2 (.store 4 [] 0 .nil (.t 45)), [4, 45, 45, 7, 27], none, none⟩,
   o1 5 (.lit [.b] [.bool true])])
 .ret)))))))))
def s_sReadOrder : Sig := ⟨[.rd false [.d], .rd false [.d]], (.tup [(true, 4), (false, 1)] [.d, .d, .sl (.own none) [.d, .d], .d, .d])⟩
noncomputable def E_sReadOrder : TEnv := envOf [(257, p_sl09Var), (256, p_sl09One), (315, p_sl09ReadEdges), (317, p_sOrderText)]
noncomputable def f_sReadOrder (n : Nat) : Int × ByteArray → Option ((Int × Int × List (Int × Int) × Int × Bool) × Unit) := runFn n E_sReadOrder c_sReadOrder [[.i .i64], [.s]] [.i .i64, .i .i64, .sl [.i .i64, .i .i64], .i .i64, .b] [] [4, 5] .no
noncomputable def g_sReadOrder := f_sReadOrder BIG
noncomputable def p_sReadOrder : TSp := ⟨s_sReadOrder, [[.i .i64], [.s]], [.i .i64, .i .i64, .sl [.i .i64, .i .i64], .i .i64, .b], [], Ou.j .no, g_sReadOrder⟩
theorem k_sReadOrder : chkW PG E_sReadOrder 260 s_sReadOrder (c_sReadOrder.ht 46) .no = some (c_sReadOrder.wc E_sReadOrder, [4, 5]) := by kernel_rfl
theorem ok_sReadOrder : p_sReadOrder.Ok PG 260 := mkOk (env_cons ok_sl09Var (env_cons ok_sl09One (env_cons ok_sl09ReadEdges (env_cons ok_sOrderText (env_nil PG))))) k_sReadOrder (by kernel_rfl)
theorem e_sReadOrder (n : Nat) (a0 : Int) (a1 : ByteArray) : f_sReadOrder n (a0, a1) =
  Option.bind (g_sl09Var (a1, (0 : Int), false)) fun r0 =>
  Option.bind (g_sl09One r0.2) fun r1 =>
  Option.bind (g_sl09Var r1.2) fun r2 =>
  Option.bind (g_sl09ReadEdges r2.2) fun r3 =>
  Option.bind (g_sOrderText (a0, (r0.1, r1.1, r3.1, r2.1))) fun r4 =>
  Option.bind (bif r3.2.2.2 then
    some true
   else bif !r4.1.2 then
    some true
   else some (!(r4.1.1.toList == a1.toList)) : Option (Bool)) fun x5 =>
  bif x5 then
   some (((0 : Int), (0 : Int), [], (0 : Int), false), ())
  else some ((r0.1, r1.1, r3.1, r2.1, true), ()) := by kernel_rfl
def c_sl05SameEdges : TC :=
 (.seq (.rg [o1 4 (.lit [.b] [.bool false])])
 (.seq (.seq (.rg [o1 6 (.copy 0),
   o1 7 (.len 6),
   o1 8 (.copy 1),
   o1 9 (.len 8),
   o1 10 (.data (.bin .neq) [.t 7, .t 9])])
 (.cond (.t 10)
  (.seq (.rg [o1 4 (.lit [.b] [.bool false])])
  .ret)
  .skip))
 (.seq (.join [] 67106864 (some [⟨4, [.b], false⟩]) (.seq (.rg [o1 5 (.lit [.i .i64] [.int .i64 (0)])])
 (.block 0 (.loop [⟨5, [.i .i64], false⟩] 67106864
  (.seq (.seq (.rg [o1 11 (.copy 5),
    o1 12 (.copy 0),
    o1 13 (.len 12),
    o1 14 (.data (.bin .lss) [.t 11, .t 13])])
  (.cond (.t 14)
   .skip
   (.exit 0)))
  (.seq (.block 1 (.seq (.rg [o1 17 (.copy 0),
    o1 18 (.copy 5),
    o1 19 (.index 17 (.t 18)),
    o1 20 (.load 17 [(0, 2)] 0 (.t 19) 2 false),
    o1 21 (.copy 1),
    o1 22 (.copy 5),
    o1 23 (.index 21 (.t 22)),
    o1 24 (.load 21 [(0, 2)] 0 (.t 23) 2 false),
    o1 25 (.eqA [.i, .i] (.t 20) (.t 24) true)])
  (.cond (.t 25)
   (.seq (.rg [o1 4 (.lit [.b] [.bool false])])
   .ret)
   .skip)))
  (.rg [o1 15 (.copy 5),
    o1 16 (.data (.bin .add) [.t 15, .c (.int .i64 (1))]),
    o1 5 (.copy 16)])))))))
 (.seq (.rg [o1 4 (.lit [.b] [.bool true])])
 .ret))))
def s_sl05SameEdges : Sig := ⟨[.rd false [.sl (.own none) [.d, .d]], .rd false [.sl (.own none) [.d, .d]]], (.one false [.d])⟩
noncomputable def E_sl05SameEdges : TEnv := envOf []
noncomputable def f_sl05SameEdges (n : Nat) : (List (Int × Int)) × (List (Int × Int)) → Option ((Bool) × Unit) := runFn n E_sl05SameEdges c_sl05SameEdges [[.sl [.i .i64, .i .i64]], [.sl [.i .i64, .i .i64]]] [.b] [] [4] .no
noncomputable def g_sl05SameEdges := f_sl05SameEdges BIG
noncomputable def p_sl05SameEdges : TSp := ⟨s_sl05SameEdges, [[.sl [.i .i64, .i .i64]], [.sl [.i .i64, .i .i64]]], [.b], [], Ou.j .no, g_sl05SameEdges⟩
theorem k_sl05SameEdges : chkW PG E_sl05SameEdges 310 s_sl05SameEdges (c_sl05SameEdges.ht 26) .no = some (c_sl05SameEdges.wc E_sl05SameEdges, [4]) := by kernel_rfl
theorem ok_sl05SameEdges : p_sl05SameEdges.Ok PG 310 := mkOk (env_nil PG) k_sl05SameEdges (by kernel_rfl)
theorem e_sl05SameEdges (n : Nat) (a0 : List (Int × Int)) (a1 : List (Int × Int)) : f_sl05SameEdges n (a0, a1) =
  bif !decide ((a0.length : Int) = (a1.length : Int)) then
   some (false, ())
  else Option.bind (loopT n (X := Int) (B := (Unit) ⊕ (Bool)) (fun self1 x0 =>
    bif decide (x0 < (a0.length : Int)) then
     bnd a0.length x0 fun n2 =>
     Option.bind a0[n2]? fun y3 =>
     bnd a1.length x0 fun n4 =>
     Option.bind a1[n4]? fun y5 =>
     bif !(decide (y3.1 = y5.1) && (decide (y3.2 = y5.2) && true)) then
      some (Sum.inr false)
     else self1 (IntKind.wrap .i64 (x0 + (1 : Int)))
    else some (Sum.inl ())) (0 : Int) : Option ((Unit) ⊕ (Bool))) fun y => match y with
  | .inl x6 =>
   some (true, ())
  | .inr x6 =>
   some (x6, ()) := by kernel_rfl
def c_sl05SameInts : TC :=
 (.seq (.rg [o1 4 (.lit [.b] [.bool false])])
 (.seq (.seq (.rg [o1 6 (.copy 0),
   o1 7 (.len 6),
   o1 8 (.copy 1),
   o1 9 (.len 8),
   o1 10 (.data (.bin .neq) [.t 7, .t 9])])
 (.cond (.t 10)
  (.seq (.rg [o1 4 (.lit [.b] [.bool false])])
  .ret)
  .skip))
 (.seq (.join [] 67106864 (some [⟨4, [.b], false⟩]) (.seq (.rg [o1 5 (.lit [.i .i64] [.int .i64 (0)])])
 (.block 0 (.loop [⟨5, [.i .i64], false⟩] 67106864
  (.seq (.seq (.rg [o1 11 (.copy 5),
    o1 12 (.copy 0),
    o1 13 (.len 12),
    o1 14 (.data (.bin .lss) [.t 11, .t 13])])
  (.cond (.t 14)
   .skip
   (.exit 0)))
  (.seq (.block 1 (.seq (.rg [o1 17 (.copy 0),
    o1 18 (.copy 5),
    o1 19 (.index 17 (.t 18)),
    o1 20 (.load 17 [(0, 1)] 0 (.t 19) 1 false),
    o1 21 (.copy 1),
    o1 22 (.copy 5),
    o1 23 (.index 21 (.t 22)),
    o1 24 (.load 21 [(0, 1)] 0 (.t 23) 1 false),
    o1 25 (.data (.bin .neq) [.t 20, .t 24])])
  (.cond (.t 25)
   (.seq (.rg [o1 4 (.lit [.b] [.bool false])])
   .ret)
   .skip)))
  (.rg [o1 15 (.copy 5),
    o1 16 (.data (.bin .add) [.t 15, .c (.int .i64 (1))]),
    o1 5 (.copy 16)])))))))
 (.seq (.rg [o1 4 (.lit [.b] [.bool true])])
 .ret))))
def s_sl05SameInts : Sig := ⟨[.rd false [.sl (.own none) [.d]], .rd false [.sl (.own none) [.d]]], (.one false [.d])⟩
noncomputable def E_sl05SameInts : TEnv := envOf []
noncomputable def f_sl05SameInts (n : Nat) : List (Int) × List (Int) → Option ((Bool) × Unit) := runFn n E_sl05SameInts c_sl05SameInts [[.sl [.i .i64]], [.sl [.i .i64]]] [.b] [] [4] .no
noncomputable def g_sl05SameInts := f_sl05SameInts BIG
noncomputable def p_sl05SameInts : TSp := ⟨s_sl05SameInts, [[.sl [.i .i64]], [.sl [.i .i64]]], [.b], [], Ou.j .no, g_sl05SameInts⟩
theorem k_sl05SameInts : chkW PG E_sl05SameInts 131 s_sl05SameInts (c_sl05SameInts.ht 26) .no = some (c_sl05SameInts.wc E_sl05SameInts, [4]) := by kernel_rfl
theorem ok_sl05SameInts : p_sl05SameInts.Ok PG 131 := mkOk (env_nil PG) k_sl05SameInts (by kernel_rfl)
theorem e_sl05SameInts (n : Nat) (a0 : List (Int)) (a1 : List (Int)) : f_sl05SameInts n (a0, a1) =
  bif !decide ((a0.length : Int) = (a1.length : Int)) then
   some (false, ())
  else Option.bind (loopT n (X := Int) (B := (Unit) ⊕ (Bool)) (fun self1 x0 =>
    bif decide (x0 < (a0.length : Int)) then
     bnd a0.length x0 fun n2 =>
     Option.bind a0[n2]? fun y3 =>
     bnd a1.length x0 fun n4 =>
     Option.bind a1[n4]? fun y5 =>
     bif !decide (y3 = y5) then
      some (Sum.inr false)
     else self1 (IntKind.wrap .i64 (x0 + (1 : Int)))
    else some (Sum.inl ())) (0 : Int) : Option ((Unit) ⊕ (Bool))) fun y => match y with
  | .inl x6 =>
   some (true, ())
  | .inr x6 =>
   some (x6, ()) := by kernel_rfl
def c_sl09SameAnswer : TC :=
 (.seq (.rg [o1 2 (.a (.t 0)),
   o1 3 (.a (.t 1)),
   o1 4 (.lit [.b] [.bool false])])
 (.seq (.join [⟨4, [.b], false⟩] 2147483632 none (.rg [o1 5 (.idx .nil),
   o1 6 (.load 2 [] 0 (.t 5) 1 false),
   o1 7 (.idx .nil),
   o1 8 (.load 3 [] 0 (.t 7) 1 false),
   o1 9 (.data (.bin .eql) [.t 6, .t 8]),
   o1 10 (.copy 9),
   o2 11 (.idx .nil) 5 true,
   o2 12 (.load 2 [] 1 (.t 11) 1 false) 5 true,
   o2 13 (.idx .nil) 5 true,
   o2 14 (.load 3 [] 1 (.t 13) 1 false) 5 true,
   o2 15 (.data (.beq false) [.t 12, .t 14]) 5 true,
   ⟨false, [], [], .pick 10 (.t 15) (.c (.bool false)), [16], (some 16), none⟩,
   o1 17 (.copy 16),
   o2 18 (.idx .nil) 12 true,
   o2 19 (.load 2 [] 2 (.t 18) 1 false) 12 true,
   o2 20 (.idx .nil) 12 true,
   o2 21 (.load 3 [] 2 (.t 20) 1 false) 12 true,
   ⟨false, [], [], .call 1 310 [.t 19, .t 21] .no, [22], (some 22), some (12, true)⟩,
   ⟨false, [], [], .pick 17 (.t 22) (.c (.bool false)), [23], (some 23), none⟩,
   o1 24 (.copy 23),
   o2 25 (.idx .nil) 19 true,
   o2 26 (.load 2 [] 3 (.t 25) 1 false) 19 true,
   o2 27 (.idx .nil) 19 true,
   o2 28 (.load 3 [] 3 (.t 27) 1 false) 19 true,
   ⟨false, [], [], .call 1 131 [.t 26, .t 28] .no, [29], (some 29), some (19, true)⟩,
   ⟨false, [], [], .pick 24 (.t 29) (.c (.bool false)), [30], (some 30), none⟩,
   o1 4 (.copy 30)]))
 .ret))
def s_sl09SameAnswer : Sig := ⟨[.rd true [.d, .d, .sl (.own none) [.d, .d], .sl (.own none) [.d]], .rd true [.d, .d, .sl (.own none) [.d, .d], .sl (.own none) [.d]]], (.one false [.d])⟩
noncomputable def E_sl09SameAnswer : TEnv := envOf [(310, p_sl05SameEdges), (131, p_sl05SameInts)]
noncomputable def f_sl09SameAnswer (n : Nat) : (Int × Bool × List (Int × Int) × List (Int)) × (Int × Bool × List (Int × Int) × List (Int)) → Option ((Bool) × Unit) := runFn n E_sl09SameAnswer c_sl09SameAnswer [[.i .i64, .b, .sl [.i .i64, .i .i64], .sl [.i .i64]], [.i .i64, .b, .sl [.i .i64, .i .i64], .sl [.i .i64]]] [.b] [] [4] .no
noncomputable def g_sl09SameAnswer := f_sl09SameAnswer BIG
noncomputable def p_sl09SameAnswer : TSp := ⟨s_sl09SameAnswer, [[.i .i64, .b, .sl [.i .i64, .i .i64], .sl [.i .i64]], [.i .i64, .b, .sl [.i .i64, .i .i64], .sl [.i .i64]]], [.b], [], Ou.j .no, g_sl09SameAnswer⟩
theorem k_sl09SameAnswer : chkW PG E_sl09SameAnswer 247 s_sl09SameAnswer (c_sl09SameAnswer.ht 31) .no = some (c_sl09SameAnswer.wc E_sl09SameAnswer, [4]) := by kernel_rfl
theorem ok_sl09SameAnswer : p_sl09SameAnswer.Ok PG 247 := mkOk (env_cons ok_sl05SameEdges (env_cons ok_sl05SameInts (env_nil PG))) k_sl09SameAnswer (by kernel_rfl)
theorem e_sl09SameAnswer (n : Nat) (a0 : Int × Bool × List (Int × Int) × List (Int)) (a1 : Int × Bool × List (Int × Int) × List (Int)) : f_sl09SameAnswer n (a0, a1) =
  Option.bind (bif decide (a0.1 = a1.1) then
    bif (a0.2.1 == a1.2.1) then
     Option.bind (g_sl05SameEdges (a0.2.2.1, a1.2.2.1)) fun r0 =>
     bif r0.1 then
      Option.bind (g_sl05SameInts (a0.2.2.2, a1.2.2.2)) fun r1 =>
      some r1.1
     else some false
    else some false
   else some false : Option (Bool)) fun x2 =>
  some (x2, ()) := by kernel_rfl
def c_sl10Blank : TC :=
 (.seq (.rg [o1 1 (.a (.t 0)),
   o1 2 (.lit [.b] [.bool false])])
 (.seq (.rg [o1 3 (.load 1 [] 0 .nil 4 false),
   o1 4 (.build [.i .i64, .b, .sl [.i .i64, .i .i64], .sl [.i .i64]] []),
   o3 5 247 [.t 3, .t 4],
   o1 2 (.copy 5)])
 .ret))
def s_sl10Blank : Sig := ⟨[.rd true [.d, .d, .sl (.own none) [.d, .d], .sl (.own none) [.d]]], (.one false [.d])⟩
noncomputable def E_sl10Blank : TEnv := envOf [(247, p_sl09SameAnswer)]
noncomputable def f_sl10Blank (n : Nat) : (Int × Bool × List (Int × Int) × List (Int)) → Option ((Bool) × Unit) := runFn n E_sl10Blank c_sl10Blank [[.i .i64, .b, .sl [.i .i64, .i .i64], .sl [.i .i64]]] [.b] [] [2] .no
noncomputable def g_sl10Blank := f_sl10Blank BIG
noncomputable def p_sl10Blank : TSp := ⟨s_sl10Blank, [[.i .i64, .b, .sl [.i .i64, .i .i64], .sl [.i .i64]]], [.b], [], Ou.j .no, g_sl10Blank⟩
theorem k_sl10Blank : chkW PG E_sl10Blank 129 s_sl10Blank (c_sl10Blank.ht 6) .no = some (c_sl10Blank.wc E_sl10Blank, [2]) := by kernel_rfl
theorem ok_sl10Blank : p_sl10Blank.Ok PG 129 := mkOk (env_cons ok_sl09SameAnswer (env_nil PG)) k_sl10Blank (by kernel_rfl)
theorem e_sl10Blank (n : Nat) (a0 : Int × Bool × List (Int × Int) × List (Int)) : f_sl10Blank n a0 =
  Option.bind (g_sl09SameAnswer (a0, ((0 : Int), false, [], []))) fun r0 =>
  some (r0.1, ()) := by kernel_rfl
def c_sl09SameOrder : TC :=
 (.seq (.rg [o1 2 (.a (.t 0)),
   o1 3 (.a (.t 1)),
   o1 4 (.lit [.b] [.bool false])])
 (.seq (.join [⟨4, [.b], false⟩] 2147483632 none (.rg [o1 5 (.idx .nil),
   o1 6 (.load 2 [] 0 (.t 5) 1 false),
   o1 7 (.idx .nil),
   o1 8 (.load 3 [] 0 (.t 7) 1 false),
   o1 9 (.data (.bin .eql) [.t 6, .t 8]),
   o1 10 (.copy 9),
   o2 11 (.idx .nil) 5 true,
   o2 12 (.load 2 [] 1 (.t 11) 1 false) 5 true,
   o2 13 (.idx .nil) 5 true,
   o2 14 (.load 3 [] 1 (.t 13) 1 false) 5 true,
   o2 15 (.data (.bin .eql) [.t 12, .t 14]) 5 true,
   ⟨false, [], [], .pick 10 (.t 15) (.c (.bool false)), [16], (some 16), none⟩,
   o1 17 (.copy 16),
   o2 18 (.idx .nil) 12 true,
   o2 19 (.load 2 [] 3 (.t 18) 1 false) 12 true,
   o2 20 (.idx .nil) 12 true,
   o2 21 (.load 3 [] 3 (.t 20) 1 false) 12 true,
   o2 22 (.data (.bin .eql) [.t 19, .t 21]) 12 true,
   ⟨false, [], [], .pick 17 (.t 22) (.c (.bool false)), [23], (some 23), none⟩,
   o1 24 (.copy 23),
   o2 25 (.idx .nil) 19 true,
   o2 26 (.load 2 [] 2 (.t 25) 1 false) 19 true,
   o2 27 (.idx .nil) 19 true,
   o2 28 (.load 3 [] 2 (.t 27) 1 false) 19 true,
   ⟨false, [], [], .call 1 310 [.t 26, .t 28] .no, [29], (some 29), some (19, true)⟩,
   ⟨false, [], [], .pick 24 (.t 29) (.c (.bool false)), [30], (some 30), none⟩,
   o1 4 (.copy 30)]))
 .ret))
def s_sl09SameOrder : Sig := ⟨[.rd true [.d, .d, .sl (.own none) [.d, .d], .d], .rd true [.d, .d, .sl (.own none) [.d, .d], .d]], (.one false [.d])⟩
noncomputable def E_sl09SameOrder : TEnv := envOf [(310, p_sl05SameEdges)]
noncomputable def f_sl09SameOrder (n : Nat) : (Int × Int × List (Int × Int) × Int) × (Int × Int × List (Int × Int) × Int) → Option ((Bool) × Unit) := runFn n E_sl09SameOrder c_sl09SameOrder [[.i .i64, .i .i64, .sl [.i .i64, .i .i64], .i .i64], [.i .i64, .i .i64, .sl [.i .i64, .i .i64], .i .i64]] [.b] [] [4] .no
noncomputable def g_sl09SameOrder := f_sl09SameOrder BIG
noncomputable def p_sl09SameOrder : TSp := ⟨s_sl09SameOrder, [[.i .i64, .i .i64, .sl [.i .i64, .i .i64], .i .i64], [.i .i64, .i .i64, .sl [.i .i64, .i .i64], .i .i64]], [.b], [], Ou.j .no, g_sl09SameOrder⟩
theorem k_sl09SameOrder : chkW PG E_sl09SameOrder 336 s_sl09SameOrder (c_sl09SameOrder.ht 31) .no = some (c_sl09SameOrder.wc E_sl09SameOrder, [4]) := by kernel_rfl
theorem ok_sl09SameOrder : p_sl09SameOrder.Ok PG 336 := mkOk (env_cons ok_sl05SameEdges (env_nil PG)) k_sl09SameOrder (by kernel_rfl)
theorem e_sl09SameOrder (n : Nat) (a0 : Int × Int × List (Int × Int) × Int) (a1 : Int × Int × List (Int × Int) × Int) : f_sl09SameOrder n (a0, a1) =
  Option.bind (bif decide (a0.1 = a1.1) then
    bif decide (a0.2.1 = a1.2.1) then
     bif decide (a0.2.2.2 = a1.2.2.2) then
      Option.bind (g_sl05SameEdges (a0.2.2.1, a1.2.2.1)) fun r0 =>
      some r0.1
     else some false
    else some false
   else some false : Option (Bool)) fun x1 =>
  some (x1, ()) := by kernel_rfl
def c_sl13BlankOrder : TC :=
 (.seq (.rg [o1 1 (.a (.t 0)),
   o1 2 (.lit [.b] [.bool false])])
 (.seq (.rg [o1 3 (.load 1 [] 0 .nil 4 false),
   o1 4 (.build [.i .i64, .i .i64, .sl [.i .i64, .i .i64], .i .i64] []),
   o3 5 336 [.t 3, .t 4],
   o1 2 (.copy 5)])
 .ret))
def s_sl13BlankOrder : Sig := ⟨[.rd true [.d, .d, .sl (.own none) [.d, .d], .d]], (.one false [.d])⟩
noncomputable def E_sl13BlankOrder : TEnv := envOf [(336, p_sl09SameOrder)]
noncomputable def f_sl13BlankOrder (n : Nat) : (Int × Int × List (Int × Int) × Int) → Option ((Bool) × Unit) := runFn n E_sl13BlankOrder c_sl13BlankOrder [[.i .i64, .i .i64, .sl [.i .i64, .i .i64], .i .i64]] [.b] [] [2] .no
noncomputable def g_sl13BlankOrder := f_sl13BlankOrder BIG
noncomputable def p_sl13BlankOrder : TSp := ⟨s_sl13BlankOrder, [[.i .i64, .i .i64, .sl [.i .i64, .i .i64], .i .i64]], [.b], [], Ou.j .no, g_sl13BlankOrder⟩
theorem k_sl13BlankOrder : chkW PG E_sl13BlankOrder 318 s_sl13BlankOrder (c_sl13BlankOrder.ht 6) .no = some (c_sl13BlankOrder.wc E_sl13BlankOrder, [2]) := by kernel_rfl
theorem ok_sl13BlankOrder : p_sl13BlankOrder.Ok PG 318 := mkOk (env_cons ok_sl09SameOrder (env_nil PG)) k_sl13BlankOrder (by kernel_rfl)
theorem e_sl13BlankOrder (n : Nat) (a0 : Int × Int × List (Int × Int) × Int) : f_sl13BlankOrder n a0 =
  Option.bind (g_sl09SameOrder (a0, ((0 : Int), (0 : Int), [], (0 : Int)))) fun r0 =>
  some (r0.1, ()) := by kernel_rfl
def c_sl13BlankAsk : TC :=
 (.seq (.rg [o1 1 (.a (.t 0)),
   o1 2 (.lit [.b] [.bool false])])
 (.seq (.rg [o1 3 (.load 1 [] 0 .nil 4 false),
   o1 4 (.build [.i .i64, .i .i64, .i .i64, .i .i64] []),
   o1 5 (.eqA [.i, .i, .i, .i] (.t 3) (.t 4) false),
   o1 2 (.copy 5)])
 .ret))
def s_sl13BlankAsk : Sig := ⟨[.rd true [.d, .d, .d, .d]], (.one false [.d])⟩
noncomputable def E_sl13BlankAsk : TEnv := envOf []
noncomputable def f_sl13BlankAsk (n : Nat) : (Int × Int × Int × Int) → Option ((Bool) × Unit) := runFn n E_sl13BlankAsk c_sl13BlankAsk [[.i .i64, .i .i64, .i .i64, .i .i64]] [.b] [] [2] .no
noncomputable def g_sl13BlankAsk := f_sl13BlankAsk BIG
noncomputable def p_sl13BlankAsk : TSp := ⟨s_sl13BlankAsk, [[.i .i64, .i .i64, .i .i64, .i .i64]], [.b], [], Ou.j .no, g_sl13BlankAsk⟩
theorem k_sl13BlankAsk : chkW PG E_sl13BlankAsk 319 s_sl13BlankAsk (c_sl13BlankAsk.ht 6) .no = some (c_sl13BlankAsk.wc E_sl13BlankAsk, [2]) := by kernel_rfl
theorem ok_sl13BlankAsk : p_sl13BlankAsk.Ok PG 319 := mkOk (env_nil PG) k_sl13BlankAsk (by kernel_rfl)
theorem e_sl13BlankAsk (n : Nat) (a0 : Int × Int × Int × Int) : f_sl13BlankAsk n a0 =
  some ((decide (a0.1 = (0 : Int)) && (decide (a0.2.1 = (0 : Int)) && (decide (a0.2.2.1 = (0 : Int)) && (decide (a0.2.2.2 = (0 : Int)) && true)))), ()) := by kernel_rfl
def c_sRecText : TC :=
 (.seq (.rg [o1 3 (.a (.t 1)),
   o1 4 (.lit [.s] [.string ⟨#[]⟩]),
   o1 5 (.lit [.b] [.bool false])])
 (.seq (.seq (.rg [o1 11 (.idx .nil),
   o1 12 (.load 3 [] 0 (.t 11) 1 false)])
 (.block 0 (.seq (.rg [o1 14 (.data (.bin .eql) [.t 12, .c (.int .i64 (1))]),
   o1 13 (.copy 14)])
 (.cond (.t 13)
  (.seq (.rg [o1 15 (.idx .nil),
    o1 16 (.load 3 [] 1 (.t 15) 4 false),
    ⟨false, [], [], .det 2 (.a (.c [.i .i64, .i .i64, .i .i64, .i .i64] [.int .i64 (0), .int .i64 (0), .int .i64 (0), .int .i64 (0)])), [6, 1000000001], (some 6), none⟩,
    o4 1 [6] (.store 6 [] 0 .nil (.t 16))])
  (.seq (.seq (.join [⟨55, [.b], false⟩] 72057594037796864 none (.rg [o1 17 (.idx .nil),
    o1 18 (.load 3 [] 5 (.t 17) 1 false),
    o1 19 (.data (.bin .neq) [.t 18, .c (.int .i64 (0))]),
    o1 20 (.copy 19),
    o2 21 (.idx .nil) 3 false,
    o2 22 (.load 3 [] 6 (.t 21) 4 false) 3 false,
    ⟨false, [], [], .call 1 129 [.t 22] .no, [23], (some 23), some (3, false)⟩,
    o2 24 (.data .not [.t 23]) 3 false,
    ⟨false, [], [], .pick 20 (.c (.bool true)) (.t 24), [25], (some 25), none⟩,
    o1 26 (.copy 25),
    o2 27 (.idx .nil) 9 false,
    o2 28 (.load 3 [] 10 (.t 27) 4 false) 9 false,
    ⟨false, [], [], .call 1 318 [.t 28] .no, [29], (some 29), some (9, false)⟩,
    o2 30 (.data .not [.t 29]) 9 false,
    ⟨false, [], [], .pick 26 (.c (.bool true)) (.t 30), [31], (some 31), none⟩,
    o1 32 (.copy 31),
    o2 33 (.idx .nil) 15 false,
    o2 34 (.load 6 [] 0 (.t 33) 1 false) 15 false,
    ⟨false, [], [], .call 1 98 [.t 34, .c [.i .i64] [.int .i64 (0)], .c [.i .i64] [.int .i64 (100000)]] .no, [35], (some 35), some (15, false)⟩,
    o2 36 (.data .not [.t 35]) 15 false,
    ⟨false, [], [], .pick 32 (.c (.bool true)) (.t 36), [37], (some 37), none⟩,
    o1 38 (.copy 37),
    o2 39 (.idx .nil) 21 false,
    o2 40 (.load 6 [] 1 (.t 39) 1 false) 21 false,
    ⟨false, [], [], .call 1 98 [.t 40, .c [.i .i64] [.int .i64 (0)], .c [.i .i64] [.int .i64 (100000)]] .no, [41], (some 41), some (21, false)⟩,
    o2 42 (.data .not [.t 41]) 21 false,
    ⟨false, [], [], .pick 38 (.c (.bool true)) (.t 42), [43], (some 43), none⟩,
    o1 44 (.copy 43),
    o2 45 (.idx .nil) 27 false,
    o2 46 (.load 6 [] 2 (.t 45) 1 false) 27 false,
    ⟨false, [], [], .call 1 98 [.t 46, .c [.i .i64] [.int .i64 (0)], .c [.i .i64] [.int .i64 (100000)]] .no, [47], (some 47), some (27, false)⟩,
    o2 48 (.data .not [.t 47]) 27 false,
    ⟨false, [], [], .pick 44 (.c (.bool true)) (.t 48), [49], (some 49), none⟩,
    o1 50 (.copy 49),
    o2 51 (.idx .nil) 33 false,
    o2 52 (.load 6 [] 3 (.t 51) 1 false) 33 false,
    ⟨false, [], [], .call 1 98 [.t 52, .c [.i .i64] [.int .i64 (0)], .c [.i .i64] [.int .i64 (100000)]] .no, [53], (some 53), some (33, false)⟩,
    o2 54 (.data .not [.t 53]) 33 false,
    ⟨false, [], [], .pick 50 (.c (.bool true)) (.t 54), [55], (some 55), none⟩]))
  (.cond (.t 55)
   (.seq (.rg [o1 4 (.lit [.s] [.string ⟨#[]⟩]),
     o1 5 (.lit [.b] [.bool false])])
   .ret)
   .skip))
  (.seq (.rg [o1 56 (.idx .nil),
    o1 57 (.load 6 [] 0 (.t 56) 1 false),
    o3 58 262 [.t 57],
    o1 59 (.data (.bin .add) [.c (.string ⟨#[1]⟩), .t 58]),
    o1 60 (.idx .nil),
    o1 61 (.load 6 [] 1 (.t 60) 1 false),
    o3 62 262 [.t 61],
    o1 63 (.data (.bin .add) [.t 59, .t 62]),
    o1 64 (.idx .nil),
    o1 65 (.load 6 [] 2 (.t 64) 1 false),
    o3 66 262 [.t 65],
    o1 67 (.data (.bin .add) [.t 63, .t 66]),
    o1 68 (.idx .nil),
    o1 69 (.load 6 [] 3 (.t 68) 1 false),
    o3 70 262 [.t 69],
    o1 71 (.data (.bin .add) [.t 67, .t 70]),
    o1 4 (.copy 71),
    o1 5 (.lit [.b] [.bool true])])
  .ret)))
  (.seq (.rg [o1 73 (.data (.bin .eql) [.t 12, .c (.int .i64 (2))]),
    o1 72 (.copy 73)])
  (.cond (.t 72)
   (.seq (.rg [o1 75 (.copy 0),
     o1 76 (.idx .nil),
     o1 77 (.load 3 [] 6 (.t 76) 4 false),
     o3 78 316 [.t 75, .t 77],
     ⟨false, [], [], .det 2 (.copy 78), [74, 78], (some 74), none⟩,
     o1 79 (.ext 74 0 1),
     o1 80 (.ext 74 1 1),
     o1 7 (.copy 79),
     o1 8 (.copy 80)])
   (.seq (.seq (.join [⟨100, [.b], false⟩] 2535298782604819573735056998400 none (.rg [o1 81 (.copy 8),
     o1 82 (.data .not [.t 81]),
     o1 83 (.copy 82),
     o2 84 (.idx .nil) 2 false,
     o2 85 (.load 3 [] 1 (.t 84) 4 false) 2 false,
     ⟨false, [], [], .call 1 319 [.t 85] .no, [86], (some 86), some (2, false)⟩,
     o2 87 (.data .not [.t 86]) 2 false,
     ⟨false, [], [], .pick 83 (.c (.bool true)) (.t 87), [88], (some 88), none⟩,
     o1 89 (.copy 88),
     o2 90 (.idx .nil) 8 false,
     o2 91 (.load 3 [] 10 (.t 90) 4 false) 8 false,
     ⟨false, [], [], .call 1 318 [.t 91] .no, [92], (some 92), some (8, false)⟩,
     o2 93 (.data .not [.t 92]) 8 false,
     ⟨false, [], [], .pick 89 (.c (.bool true)) (.t 93), [94], (some 94), none⟩,
     o1 95 (.copy 94),
     o2 96 (.idx .nil) 14 false,
     o2 97 (.load 3 [] 5 (.t 96) 1 false) 14 false,
     ⟨false, [], [], .call 1 98 [.t 97, .c [.i .i64] [.int .i64 (0)], .c [.i .i64] [.int .i64 (100000)]] .no, [98], (some 98), some (14, false)⟩,
     o2 99 (.data .not [.t 98]) 14 false,
     ⟨false, [], [], .pick 95 (.c (.bool true)) (.t 99), [100], (some 100), none⟩]))
   (.cond (.t 100)
    (.seq (.rg [o1 4 (.lit [.s] [.string ⟨#[]⟩]),
      o1 5 (.lit [.b] [.bool false])])
    .ret)
    .skip))
   (.seq (.rg [o1 101 (.idx .nil),
     o1 102 (.load 3 [] 5 (.t 101) 1 false),
     o3 103 262 [.t 102],
     o1 104 (.data (.bin .add) [.c (.string ⟨#[2]⟩), .t 103]),
     o1 105 (.copy 7),
     o1 106 (.data .slen [.t 105]),
     o3 107 262 [.t 106],
     o1 108 (.data (.bin .add) [.t 104, .t 107]),
     o1 109 (.copy 7),
     o1 110 (.data (.bin .add) [.t 108, .t 109]),
     o1 4 (.copy 110),
     o1 5 (.lit [.b] [.bool true])])
   .ret)))
   (.seq (.rg [o1 112 (.data (.bin .eql) [.t 12, .c (.int .i64 (3))]),
     o1 111 (.copy 112)])
   (.cond (.t 111)
    (.seq (.rg [o1 114 (.copy 0),
      o1 115 (.idx .nil),
      o1 116 (.load 3 [] 10 (.t 115) 4 false),
      o3 117 317 [.t 114, .t 116],
      ⟨false, [], [], .det 2 (.copy 117), [113, 117], (some 113), none⟩,
      o1 118 (.ext 113 0 1),
      o1 119 (.ext 113 1 1),
      o1 9 (.copy 118),
      o1 10 (.copy 119)])
    (.seq (.seq (.join [⟨138, [.b], false⟩] 696896958226086188257118292213201016717312 none (.rg [o1 120 (.copy 10),
      o1 121 (.data .not [.t 120]),
      o1 122 (.copy 121),
      o2 123 (.idx .nil) 2 false,
      o2 124 (.load 3 [] 1 (.t 123) 4 false) 2 false,
      ⟨false, [], [], .call 1 319 [.t 124] .no, [125], (some 125), some (2, false)⟩,
      o2 126 (.data .not [.t 125]) 2 false,
      ⟨false, [], [], .pick 122 (.c (.bool true)) (.t 126), [127], (some 127), none⟩,
      o1 128 (.copy 127),
      o2 129 (.idx .nil) 8 false,
      o2 130 (.load 3 [] 6 (.t 129) 4 false) 8 false,
      ⟨false, [], [], .call 1 129 [.t 130] .no, [131], (some 131), some (8, false)⟩,
      o2 132 (.data .not [.t 131]) 8 false,
      ⟨false, [], [], .pick 128 (.c (.bool true)) (.t 132), [133], (some 133), none⟩,
      o1 134 (.copy 133),
      o2 135 (.idx .nil) 14 false,
      o2 136 (.load 3 [] 5 (.t 135) 1 false) 14 false,
      o2 137 (.data (.bin .neq) [.t 136, .c (.int .i64 (0))]) 14 false,
      ⟨false, [], [], .pick 134 (.c (.bool true)) (.t 137), [138], (some 138), none⟩]))
    (.cond (.t 138)
     (.seq (.rg [o1 4 (.lit [.s] [.string ⟨#[]⟩]),
       o1 5 (.lit [.b] [.bool false])])
     .ret)
     .skip))
    (.seq (.rg [o1 139 (.copy 9),
      o1 140 (.data .slen [.t 139]),
      o3 141 262 [.t 140],
      o1 142 (.data (.bin .add) [.c (.string ⟨#[3]⟩), .t 141]),
      o1 143 (.copy 9),
      o1 144 (.data (.bin .add) [.t 142, .t 143]),
      o1 4 (.copy 144),
      o1 5 (.lit [.b] [.bool true])])
    .ret)))
    .skip))))))))
 (.seq (.rg [o1 4 (.lit [.s] [.string ⟨#[]⟩]),
   o1 5 (.lit [.b] [.bool false])])
 .ret)))
def s_sRecText : Sig := ⟨[.rd false [.d], .rd true [.d, .d, .d, .d, .d, .d, .d, .d, .sl (.own none) [.d, .d], .sl (.own none) [.d], .d, .d, .sl (.own none) [.d, .d], .d]], (.tup [(false, 1), (false, 1)] [.d, .d])⟩
noncomputable def E_sRecText : TEnv := envOf [(129, p_sl10Blank), (318, p_sl13BlankOrder), (98, p_sl01In), (262, p_sl01Var), (316, p_sAnswerText), (319, p_sl13BlankAsk), (317, p_sOrderText)]
noncomputable def f_sRecText (n : Nat) : Int × (Int × Int × Int × Int × Int × Int × Int × Bool × List (Int × Int) × List (Int) × Int × Int × List (Int × Int) × Int) → Option ((ByteArray × Bool) × Unit) := runFn n E_sRecText c_sRecText [[.i .i64], [.i .i64, .i .i64, .i .i64, .i .i64, .i .i64, .i .i64, .i .i64, .b, .sl [.i .i64, .i .i64], .sl [.i .i64], .i .i64, .i .i64, .sl [.i .i64, .i .i64], .i .i64]] [.s, .b] [] [4, 5] .no
noncomputable def g_sRecText := f_sRecText BIG
noncomputable def p_sRecText : TSp := ⟨s_sRecText, [[.i .i64], [.i .i64, .i .i64, .i .i64, .i .i64, .i .i64, .i .i64, .i .i64, .b, .sl [.i .i64, .i .i64], .sl [.i .i64], .i .i64, .i .i64, .sl [.i .i64, .i .i64], .i .i64]], [.s, .b], [], Ou.j .no, g_sRecText⟩
theorem k_sRecText : chkW PG E_sRecText 261 s_sRecText (c_sRecText.ht 145) .no = some (c_sRecText.wc E_sRecText, [4, 5]) := by kernel_rfl
theorem ok_sRecText : p_sRecText.Ok PG 261 := mkOk (env_cons ok_sl10Blank (env_cons ok_sl13BlankOrder (env_cons ok_sl01In (env_cons ok_sl01Var (env_cons ok_sAnswerText (env_cons ok_sl13BlankAsk (env_cons ok_sOrderText (env_nil PG)))))))) k_sRecText (by kernel_rfl)
theorem e_sRecText (n : Nat) (a0 : Int) (a1 : Int × Int × Int × Int × Int × Int × Int × Bool × List (Int × Int) × List (Int) × Int × Int × List (Int × Int) × Int) : f_sRecText n (a0, a1) =
  bif decide (a1.1 = (1 : Int)) then
   Option.bind (bif !decide (a1.2.2.2.2.2.1 = (0 : Int)) then
     some true
    else Option.bind (g_sl10Blank (a1.2.2.2.2.2.2.1, a1.2.2.2.2.2.2.2.1, a1.2.2.2.2.2.2.2.2.1, a1.2.2.2.2.2.2.2.2.2.1)) fun r0 =>
    bif !r0.1 then
     some true
    else Option.bind (g_sl13BlankOrder a1.2.2.2.2.2.2.2.2.2.2) fun r1 =>
    bif !r1.1 then
     some true
    else Option.bind (g_sl01In (a1.2.1, (0 : Int), (100000 : Int))) fun r2 =>
    bif !r2.1 then
     some true
    else Option.bind (g_sl01In (a1.2.2.1, (0 : Int), (100000 : Int))) fun r3 =>
    bif !r3.1 then
     some true
    else Option.bind (g_sl01In (a1.2.2.2.1, (0 : Int), (100000 : Int))) fun r4 =>
    bif !r4.1 then
     some true
    else Option.bind (g_sl01In (a1.2.2.2.2.1, (0 : Int), (100000 : Int))) fun r5 =>
    some !r5.1 : Option (Bool)) fun x6 =>
   bif x6 then
    some (((ByteArray.mk #[]), false), ())
   else Option.bind (g_sl01Var a1.2.1) fun r7 =>
   bif decide ((ByteArray.mk #[1]).size + r7.1.size ≤ 4611686018427387904) then
    Option.bind (g_sl01Var a1.2.2.1) fun r8 =>
    bif decide (((ByteArray.mk #[1]) ++ r7.1).size + r8.1.size ≤ 4611686018427387904) then
     Option.bind (g_sl01Var a1.2.2.2.1) fun r9 =>
     bif decide ((((ByteArray.mk #[1]) ++ r7.1) ++ r8.1).size + r9.1.size ≤ 4611686018427387904) then
      Option.bind (g_sl01Var a1.2.2.2.2.1) fun r10 =>
      bif decide (((((ByteArray.mk #[1]) ++ r7.1) ++ r8.1) ++ r9.1).size + r10.1.size ≤ 4611686018427387904) then
       some ((((((ByteArray.mk #[1]) ++ r7.1) ++ r8.1) ++ r9.1) ++ r10.1, true), ())
      else none
     else none
    else none
   else none
  else bif decide (a1.1 = (2 : Int)) then
   Option.bind (g_sAnswerText (a0, (a1.2.2.2.2.2.2.1, a1.2.2.2.2.2.2.2.1, a1.2.2.2.2.2.2.2.2.1, a1.2.2.2.2.2.2.2.2.2.1))) fun r11 =>
   Option.bind (bif !r11.1.2 then
     some true
    else Option.bind (g_sl13BlankAsk (a1.2.1, a1.2.2.1, a1.2.2.2.1, a1.2.2.2.2.1)) fun r12 =>
    bif !r12.1 then
     some true
    else Option.bind (g_sl13BlankOrder a1.2.2.2.2.2.2.2.2.2.2) fun r13 =>
    bif !r13.1 then
     some true
    else Option.bind (g_sl01In (a1.2.2.2.2.2.1, (0 : Int), (100000 : Int))) fun r14 =>
    some !r14.1 : Option (Bool)) fun x15 =>
   bif x15 then
    some (((ByteArray.mk #[]), false), ())
   else Option.bind (g_sl01Var a1.2.2.2.2.2.1) fun r16 =>
   bif decide ((ByteArray.mk #[2]).size + r16.1.size ≤ 4611686018427387904) then
    Option.bind (g_sl01Var (r11.1.1.size : Int)) fun r17 =>
    bif decide (((ByteArray.mk #[2]) ++ r16.1).size + r17.1.size ≤ 4611686018427387904) then
     bif decide ((((ByteArray.mk #[2]) ++ r16.1) ++ r17.1).size + r11.1.1.size ≤ 4611686018427387904) then
      some (((((ByteArray.mk #[2]) ++ r16.1) ++ r17.1) ++ r11.1.1, true), ())
     else none
    else none
   else none
  else bif decide (a1.1 = (3 : Int)) then
   Option.bind (g_sOrderText (a0, a1.2.2.2.2.2.2.2.2.2.2)) fun r18 =>
   Option.bind (bif !r18.1.2 then
     some true
    else Option.bind (g_sl13BlankAsk (a1.2.1, a1.2.2.1, a1.2.2.2.1, a1.2.2.2.2.1)) fun r19 =>
    bif !r19.1 then
     some true
    else Option.bind (g_sl10Blank (a1.2.2.2.2.2.2.1, a1.2.2.2.2.2.2.2.1, a1.2.2.2.2.2.2.2.2.1, a1.2.2.2.2.2.2.2.2.2.1)) fun r20 =>
    bif !r20.1 then
     some true
    else some (!decide (a1.2.2.2.2.2.1 = (0 : Int))) : Option (Bool)) fun x21 =>
   bif x21 then
    some (((ByteArray.mk #[]), false), ())
   else Option.bind (g_sl01Var (r18.1.1.size : Int)) fun r22 =>
   bif decide ((ByteArray.mk #[3]).size + r22.1.size ≤ 4611686018427387904) then
    bif decide (((ByteArray.mk #[3]) ++ r22.1).size + r18.1.1.size ≤ 4611686018427387904) then
     some ((((ByteArray.mk #[3]) ++ r22.1) ++ r18.1.1, true), ())
    else none
   else none
  else some (((ByteArray.mk #[]), false), ()) := by kernel_rfl
def c_sReadRec : TC :=
 (.seq (.rg [⟨false, [], [], .det 2 (.a (.c [.i .i64, .i .i64, .i .i64, .i .i64, .i .i64, .i .i64, .i .i64, .b, .sl [.i .i64, .i .i64], .sl [.i .i64], .i .i64, .i .i64, .sl [.i .i64, .i .i64], .i .i64] [.int .i64 (0), .int .i64 (0), .int .i64 (0), .int .i64 (0), .int .i64 (0), .int .i64 (0), .int .i64 (0), .bool false, .slice none 0 0, .slice none 0 0, .int .i64 (0), .int .i64 (0), .slice none 0 0, .int .i64 (0)])), [4, 1000000001], (some 4), none⟩,
   o1 5 (.lit [.b] [.bool false])])
 (.seq (.rg [o1 10 (.copy 1),
   o1 11 (.build [.s, .i .i64, .b] [(0, .t 10)]),
   o1 12 (.a (.t 11)),
   o1 6 (.p0)])
 (.seq (.rg [o1 13 (.same 6),
   ⟨false, [], [], .call 2 256 [.t 12] (.mp 0), [14, 12], (some 14), none⟩,
   o1 15 (.build [.i .i64, .i .i64, .i .i64, .i .i64, .i .i64, .i .i64, .i .i64, .b, .sl [.i .i64, .i .i64], .sl [.i .i64], .i .i64, .i .i64, .sl [.i .i64, .i .i64], .i .i64] [(0, .t 14)]),
   ⟨false, [], [], .det 2 (.a (.c [.i .i64, .i .i64, .i .i64, .i .i64, .i .i64, .i .i64, .i .i64, .b, .sl [.i .i64, .i .i64], .sl [.i .i64], .i .i64, .i .i64, .sl [.i .i64, .i .i64], .i .i64] [.int .i64 (0), .int .i64 (0), .int .i64 (0), .int .i64 (0), .int .i64 (0), .int .i64 (0), .int .i64 (0), .bool false, .slice none 0 0, .slice none 0 0, .int .i64 (0), .int .i64 (0), .slice none 0 0, .int .i64 (0)])), [7, 1000000001], (some 7), none⟩,
   o4 2 [7, 15] (.store 7 [] 0 .nil (.t 15))])
 (.seq (.join [⟨12, [.s, .i .i64, .b], false⟩, ⟨7, [.i .i64, .i .i64, .i .i64, .i .i64, .i .i64, .i .i64, .i .i64, .b, .sl [.i .i64, .i .i64], .sl [.i .i64], .i .i64, .i .i64, .sl [.i .i64, .i .i64], .i .i64], false⟩] 9223372036854714496 none (.seq (.rg [o1 16 (.idx .nil),
   o1 17 (.load 7 [] 0 (.t 16) 1 false)])
 (.block 0 (.seq (.rg [o1 19 (.data (.bin .eql) [.t 17, .c (.int .i64 (1))]),
   o1 18 (.copy 19)])
 (.cond (.t 18)
  (.seq (.rg [o1 20 (.same 6),
    ⟨false, [], [], .call 2 257 [.t 12] (.mp 0), [21, 12], (some 21), none⟩,
    o1 22 (.idx .nil),
    o1 23 (.idx (.t 22)),
    o4 1 [7] (.store 7 [] 1 (.t 23) (.t 21))])
  (.seq (.rg [o1 24 (.same 6),
    ⟨false, [], [], .call 2 257 [.t 12] (.mp 0), [25, 12], (some 25), none⟩,
    o1 26 (.idx .nil),
    o1 27 (.idx (.t 26)),
    o4 1 [7] (.store 7 [] 2 (.t 27) (.t 25))])
  (.seq (.rg [o1 28 (.same 6),
    ⟨false, [], [], .call 2 257 [.t 12] (.mp 0), [29, 12], (some 29), none⟩,
    o1 30 (.idx .nil),
    o1 31 (.idx (.t 30)),
    o4 1 [7] (.store 7 [] 3 (.t 31) (.t 29))])
  (.rg [o1 32 (.same 6),
    ⟨false, [], [], .call 2 257 [.t 12] (.mp 0), [33, 12], (some 33), none⟩,
    o1 34 (.idx .nil),
    o1 35 (.idx (.t 34)),
    o4 1 [7] (.store 7 [] 4 (.t 35) (.t 33))]))))
  (.seq (.rg [o1 37 (.data (.bin .eql) [.t 17, .c (.int .i64 (2))]),
    o1 36 (.copy 37)])
  (.cond (.t 36)
   (.seq (.rg [o1 38 (.same 6),
     ⟨false, [], [], .call 2 257 [.t 12] (.mp 0), [39, 12], (some 39), none⟩,
     o1 40 (.idx .nil),
     o4 1 [7] (.store 7 [] 5 (.t 40) (.t 39))])
   (.rg [o1 42 (.copy 0),
     o1 43 (.same 6),
     o1 44 (.same 6),
     ⟨false, [], [], .call 2 257 [.t 12] (.mp 0), [45, 12], (some 45), none⟩,
     ⟨false, [], [], .call 2 259 [.t 12, .t 45] (.mp 0), [46, 12], (some 46), none⟩,
     o3 47 258 [.t 42, .t 46],
     ⟨false, [], [], .det 2 (.copy 47), [41, 47], (some 41), none⟩,
     ⟨false, [], [], .det 2 (.ext 41 0 4), [48, 41], (some 48), none⟩,
     o1 49 (.ext 41 4 1),
     o1 50 (.idx .nil),
     o4 2 [7, 48] (.store 7 [] 6 (.t 50) (.t 48))]))
   (.seq (.rg [o1 52 (.data (.bin .eql) [.t 17, .c (.int .i64 (3))]),
     o1 51 (.copy 52)])
   (.cond (.t 51)
    (.rg [o1 54 (.copy 0),
      o1 55 (.same 6),
      o1 56 (.same 6),
      ⟨false, [], [], .call 2 257 [.t 12] (.mp 0), [57, 12], (some 57), none⟩,
      ⟨false, [], [], .call 2 259 [.t 12, .t 57] (.mp 0), [58, 12], (some 58), none⟩,
      o3 59 260 [.t 54, .t 58],
      ⟨false, [], [], .det 2 (.copy 59), [53, 59], (some 53), none⟩,
      ⟨false, [], [], .det 2 (.ext 53 0 4), [60, 53], (some 60), none⟩,
      o1 61 (.ext 53 4 1),
      o1 62 (.idx .nil),
      o4 2 [7, 60] (.store 7 [] 10 (.t 62) (.t 60))])
    .skip)))))))))
 (.seq (.rg [o1 64 (.copy 0),
   o1 65 (.load 7 [] 0 .nil 14 true),
   o3 66 261 [.t 64, .t 65],
   ⟨false, [], [], .det 2 (.copy 66), [63, 66], (some 63), none⟩,
   o1 67 (.ext 63 0 1),
   o1 68 (.ext 63 1 1),
   o1 8 (.copy 67),
   o1 9 (.copy 68)])
 (.seq (.seq (.join [⟨81, [.b], false⟩] 4835112982648157993172992 none (.rg [o1 69 (.same 6),
   o1 70 (.same 69),
   o1 71 (.idx (.t 70)),
   o1 72 (.load 12 [] 2 (.t 71) 1 false),
   o1 73 (.copy 72),
   o2 74 (.copy 9) 4 false,
   o2 75 (.data .not [.t 74]) 4 false,
   ⟨false, [], [], .pick 73 (.c (.bool true)) (.t 75), [76], (some 76), none⟩,
   o1 77 (.copy 76),
   o2 78 (.copy 8) 8 false,
   o2 79 (.copy 1) 8 false,
   o2 80 (.data (.bin .neq) [.t 78, .t 79]) 8 false,
   ⟨false, [], [], .pick 77 (.c (.bool true)) (.t 80), [81], (some 81), none⟩]))
 (.cond (.t 81)
  (.seq (.rg [o1 82 (.build [.i .i64, .i .i64, .i .i64, .i .i64, .i .i64, .i .i64, .i .i64, .b, .sl [.i .i64, .i .i64], .sl [.i .i64], .i .i64, .i .i64, .sl [.i .i64, .i .i64], .i .i64] []),
    o4 2 [4, 82] (.store 4 [] 0 .nil (.t 82)),
    o1 5 (.lit [.b] [.bool false])])
  .ret)
  .skip))
 (.seq (.rg [o1 83 (.load 7 [] 0 .nil 14 true),
   ⟨false, [83], [], .det 2 (.store 4 [] 0 .nil (.t 83)), [4, 83, 83, 7, 65], none, none⟩,
   o1 5 (.lit [.b] [.bool true])])
 .ret)))))))
def s_sReadRec : Sig := ⟨[.rd false [.d], .rd false [.d]], (.tup [(true, 14), (false, 1)] [.d, .d, .d, .d, .d, .d, .d, .d, .sl (.own none) [.d, .d], .sl (.own none) [.d], .d, .d, .sl (.own none) [.d, .d], .d, .d])⟩
noncomputable def E_sReadRec : TEnv := envOf [(256, p_sl09One), (257, p_sl09Var), (259, p_sl09Take), (258, p_sReadAnswer), (260, p_sReadOrder), (261, p_sRecText)]
noncomputable def f_sReadRec (n : Nat) : Int × ByteArray → Option ((Int × Int × Int × Int × Int × Int × Int × Bool × List (Int × Int) × List (Int) × Int × Int × List (Int × Int) × Int × Bool) × Unit) := runFn n E_sReadRec c_sReadRec [[.i .i64], [.s]] [.i .i64, .i .i64, .i .i64, .i .i64, .i .i64, .i .i64, .i .i64, .b, .sl [.i .i64, .i .i64], .sl [.i .i64], .i .i64, .i .i64, .sl [.i .i64, .i .i64], .i .i64, .b] [] [4, 5] .no
noncomputable def g_sReadRec := f_sReadRec BIG
noncomputable def p_sReadRec : TSp := ⟨s_sReadRec, [[.i .i64], [.s]], [.i .i64, .i .i64, .i .i64, .i .i64, .i .i64, .i .i64, .i .i64, .b, .sl [.i .i64, .i .i64], .sl [.i .i64], .i .i64, .i .i64, .sl [.i .i64, .i .i64], .i .i64, .b], [], Ou.j .no, g_sReadRec⟩
theorem k_sReadRec : chkW PG E_sReadRec 141 s_sReadRec (c_sReadRec.ht 84) .no = some (c_sReadRec.wc E_sReadRec, [4, 5]) := by kernel_rfl
theorem ok_sReadRec : p_sReadRec.Ok PG 141 := mkOk (env_cons ok_sl09One (env_cons ok_sl09Var (env_cons ok_sl09Take (env_cons ok_sReadAnswer (env_cons ok_sReadOrder (env_cons ok_sRecText (env_nil PG))))))) k_sReadRec (by kernel_rfl)
theorem e_sReadRec (n : Nat) (a0 : Int) (a1 : ByteArray) : f_sReadRec n (a0, a1) =
  Option.bind (g_sl09One (a1, (0 : Int), false)) fun r0 =>
  Option.bind (bif decide (r0.1 = (1 : Int)) then
    Option.bind (g_sl09Var r0.2) fun r1 =>
    Option.bind (g_sl09Var r1.2) fun r2 =>
    Option.bind (g_sl09Var r2.2) fun r3 =>
    Option.bind (g_sl09Var r3.2) fun r4 =>
    some (r4.2, (r0.1, r1.1, r2.1, r3.1, r4.1, (0 : Int), (0 : Int), false, [], [], (0 : Int), (0 : Int), [], (0 : Int)))
   else bif decide (r0.1 = (2 : Int)) then
    Option.bind (g_sl09Var r0.2) fun r5 =>
    Option.bind (g_sl09Var r5.2) fun r6 =>
    Option.bind (g_sl09Take (r6.2, r6.1)) fun r7 =>
    Option.bind (g_sReadAnswer (a0, r7.1)) fun r8 =>
    some (r7.2, (r0.1, (0 : Int), (0 : Int), (0 : Int), (0 : Int), r5.1, r8.1.1, r8.1.2.1, r8.1.2.2.1, r8.1.2.2.2.1, (0 : Int), (0 : Int), [], (0 : Int)))
   else bif decide (r0.1 = (3 : Int)) then
    Option.bind (g_sl09Var r0.2) fun r9 =>
    Option.bind (g_sl09Take (r9.2, r9.1)) fun r10 =>
    Option.bind (g_sReadOrder (a0, r10.1)) fun r11 =>
    some (r10.2, (r0.1, (0 : Int), (0 : Int), (0 : Int), (0 : Int), (0 : Int), (0 : Int), false, [], [], r11.1.1, r11.1.2.1, r11.1.2.2.1, r11.1.2.2.2.1))
   else some (r0.2, (r0.1, (0 : Int), (0 : Int), (0 : Int), (0 : Int), (0 : Int), (0 : Int), false, [], [], (0 : Int), (0 : Int), [], (0 : Int))) : Option ((ByteArray × Int × Bool) × (Int × Int × Int × Int × Int × Int × Int × Bool × List (Int × Int) × List (Int) × Int × Int × List (Int × Int) × Int))) fun x12 =>
  Option.bind (g_sRecText (a0, x12.2)) fun r13 =>
  Option.bind (bif x12.1.2.2 then
    some true
   else bif !r13.1.2 then
    some true
   else some (!(r13.1.1.toList == a1.toList)) : Option (Bool)) fun x14 =>
  bif x14 then
   some (((0 : Int), (0 : Int), (0 : Int), (0 : Int), (0 : Int), (0 : Int), (0 : Int), false, [], [], (0 : Int), (0 : Int), [], (0 : Int), false), ())
  else some ((x12.2.1, x12.2.2.1, x12.2.2.2.1, x12.2.2.2.2.1, x12.2.2.2.2.2.1, x12.2.2.2.2.2.2.1, x12.2.2.2.2.2.2.2.1, x12.2.2.2.2.2.2.2.2.1, x12.2.2.2.2.2.2.2.2.2.1, x12.2.2.2.2.2.2.2.2.2.2.1, x12.2.2.2.2.2.2.2.2.2.2.2.1, x12.2.2.2.2.2.2.2.2.2.2.2.2.1, x12.2.2.2.2.2.2.2.2.2.2.2.2.2.1, x12.2.2.2.2.2.2.2.2.2.2.2.2.2.2, true), ()) := by kernel_rfl
def c_sReadRecs : TC :=
 (.seq (.rg [o1 4 (.lit [.sl [.i .i64, .i .i64, .i .i64, .i .i64, .i .i64, .i .i64, .i .i64, .b, .sl [.i .i64, .i .i64], .sl [.i .i64], .i .i64, .i .i64, .sl [.i .i64, .i .i64], .i .i64]] [.slice none 0 0]),
   o1 5 (.lit [.i .i64] [.int .i64 (0)])])
 (.seq (.rg [o1 15 (.sli [.i .i64, .i .i64, .i .i64, .i .i64, .i .i64, .i .i64, .i .i64, .b, .sl [.i .i64, .i .i64], .sl [.i .i64], .i .i64, .i .i64, .sl [.i .i64, .i .i64], .i .i64] []),
   ⟨false, [], [], .det 2 (.copy 15), [6, 15], (some 6), none⟩])
 (.seq (.rg [o1 17 (.copy 1),
   o3 18 140 [.t 17],
   ⟨false, [], [], .det 2 (.copy 18), [16, 18], (some 16), none⟩,
   ⟨false, [], [], .det 2 (.ext 16 0 1), [19, 16], (some 19), none⟩,
   o1 20 (.ext 16 1 1),
   ⟨false, [], [], .det 2 (.copy 19), [7, 19], (some 7), none⟩,
   o1 8 (.copy 20)])
 (.seq (.rg [o1 9 (.lit [.i .i64] [.int .i64 (0)])])
 (.seq (.join [⟨6, [.sl [.i .i64, .i .i64, .i .i64, .i .i64, .i .i64, .i .i64, .i .i64, .b, .sl [.i .i64, .i .i64], .sl [.i .i64], .i .i64, .i .i64, .sl [.i .i64, .i .i64], .i .i64]], false⟩, ⟨9, [.i .i64], false⟩] 72057594035863152 (some [⟨4, [.sl [.i .i64, .i .i64, .i .i64, .i .i64, .i .i64, .i .i64, .i .i64, .b, .sl [.i .i64, .i .i64], .sl [.i .i64], .i .i64, .i .i64, .sl [.i .i64, .i .i64], .i .i64]], false⟩, ⟨5, [.i .i64], false⟩]) (.seq (.rg [o1 10 (.lit [.i .i64] [.int .i64 (0)])])
 (.block 0 (.loop [⟨6, [.sl [.i .i64, .i .i64, .i .i64, .i .i64, .i .i64, .i .i64, .i .i64, .b, .sl [.i .i64, .i .i64], .sl [.i .i64], .i .i64, .i .i64, .sl [.i .i64, .i .i64], .i .i64]], false⟩, ⟨9, [.i .i64], false⟩, ⟨10, [.i .i64], false⟩] 72057594035863152
  (.seq (.seq (.rg [o1 21 (.copy 10),
    ⟨true, [], [], .det 1 (.copy 7), [22], (some 22), none⟩,
    o1 23 (.len 22),
    o1 24 (.data (.bin .lss) [.t 21, .t 23])])
  (.cond (.t 24)
   .skip
   (.exit 0)))
  (.seq (.block 1 (.seq (.rg [o1 28 (.copy 0),
    ⟨true, [], [], .det 1 (.copy 7), [29], (some 29), none⟩,
    o1 30 (.copy 10),
    o1 31 (.index 29 (.t 30)),
    o1 32 (.load 7 [(0, 1)] 0 (.t 31) 1 false),
    o3 33 141 [.t 28, .t 32],
    ⟨false, [], [], .det 2 (.copy 33), [27, 33], (some 27), none⟩,
    ⟨false, [], [], .det 2 (.ext 27 0 14), [34, 27], (some 34), none⟩,
    o1 35 (.ext 27 14 1),
    ⟨false, [], [], .det 2 (.a (.c [.i .i64, .i .i64, .i .i64, .i .i64, .i .i64, .i .i64, .i .i64, .b, .sl [.i .i64, .i .i64], .sl [.i .i64], .i .i64, .i .i64, .sl [.i .i64, .i .i64], .i .i64] [.int .i64 (0), .int .i64 (0), .int .i64 (0), .int .i64 (0), .int .i64 (0), .int .i64 (0), .int .i64 (0), .bool false, .slice none 0 0, .slice none 0 0, .int .i64 (0), .int .i64 (0), .slice none 0 0, .int .i64 (0)])), [11, 1000000001], (some 11), none⟩,
    o4 2 [11, 34] (.store 11 [] 0 .nil (.t 34)),
    o1 12 (.copy 35)])
  (.seq (.seq (.rg [o1 36 (.copy 12),
    o1 37 (.data .not [.t 36])])
  (.cond (.t 37)
   (.seq (.rg [⟨false, [], [], .det 2 (.copy 6), [38, 6], (some 38), none⟩,
     o1 39 (.copy 9),
     ⟨false, [], [], .det 2 (.copy 38), [4, 38], (some 4), none⟩,
     o1 5 (.copy 39)])
   .ret)
   .skip))
  (.seq (.rg [⟨false, [], [], .det 2 (.copy 6), [40, 6], (some 40), none⟩,
    o1 41 (.load 11 [] 0 .nil 14 true),
    ⟨false, [41], [], .det 2 (.sli [.i .i64, .i .i64, .i .i64, .i .i64, .i .i64, .i .i64, .i .i64, .b, .sl [.i .i64, .i .i64], .sl [.i .i64], .i .i64, .i .i64, .sl [.i .i64, .i .i64], .i .i64] [.t 41]), [42, 41, 41, 11], (some 42), none⟩,
    ⟨false, [], [], .det 3 (.app (some 40) 42), [43, 40, 42], (some 43), none⟩,
    ⟨false, [], [], .det 2 (.copy 43), [6, 43], (some 6), none⟩])
  (.seq (.rg [⟨true, [], [], .det 1 (.copy 7), [45], (some 45), none⟩,
    o1 46 (.copy 10),
    o1 47 (.index 45 (.t 46)),
    o1 48 (.load 7 [(0, 1)] 0 (.t 47) 1 false),
    o3 49 142 [.t 48],
    ⟨false, [], [], .det 2 (.copy 49), [44, 49], (some 44), none⟩,
    o1 50 (.ext 44 0 1),
    o1 51 (.ext 44 1 1),
    o1 13 (.copy 50),
    o1 14 (.copy 51)])
  (.rg [o1 52 (.copy 9),
    o1 53 (.copy 13),
    o1 54 (.data .slen [.t 53]),
    o1 55 (.data (.bin .add) [.t 52, .t 54]),
    o1 9 (.copy 55)]))))))
  (.rg [o1 25 (.copy 10),
    o1 26 (.data (.bin .add) [.t 25, .c (.int .i64 (1))]),
    o1 10 (.copy 26)])))))))
 (.seq (.rg [⟨false, [], [], .det 2 (.copy 6), [56, 6], (some 56), none⟩,
   o1 57 (.copy 9),
   ⟨false, [], [], .det 2 (.copy 56), [4, 56], (some 4), none⟩,
   o1 5 (.copy 57)])
 .ret))))))
def s_sReadRecs : Sig := ⟨[.rd false [.d], .rd false [.d]], (.tup [(false, 1), (false, 1)] [.sl (.own none) [.d, .d, .d, .d, .d, .d, .d, .d, .sl (.own none) [.d, .d], .sl (.own none) [.d], .d, .d, .sl (.own none) [.d, .d], .d], .d])⟩
noncomputable def E_sReadRecs : TEnv := envOf [(140, p_sUnframe), (141, p_sReadRec), (142, p_sFrame)]
noncomputable def f_sReadRecs (n : Nat) : Int × ByteArray → Option ((List (Int × Int × Int × Int × Int × Int × Int × Bool × List (Int × Int) × List (Int) × Int × Int × List (Int × Int) × Int) × Int) × Unit) := runFn n E_sReadRecs c_sReadRecs [[.i .i64], [.s]] [.sl [.i .i64, .i .i64, .i .i64, .i .i64, .i .i64, .i .i64, .i .i64, .b, .sl [.i .i64, .i .i64], .sl [.i .i64], .i .i64, .i .i64, .sl [.i .i64, .i .i64], .i .i64], .i .i64] [] [4, 5] .no
noncomputable def g_sReadRecs := f_sReadRecs BIG
noncomputable def p_sReadRecs : TSp := ⟨s_sReadRecs, [[.i .i64], [.s]], [.sl [.i .i64, .i .i64, .i .i64, .i .i64, .i .i64, .i .i64, .i .i64, .b, .sl [.i .i64, .i .i64], .sl [.i .i64], .i .i64, .i .i64, .sl [.i .i64, .i .i64], .i .i64], .i .i64], [], Ou.j .no, g_sReadRecs⟩
theorem k_sReadRecs : chkW PG E_sReadRecs 54 s_sReadRecs (c_sReadRecs.ht 58) .no = some (c_sReadRecs.wc E_sReadRecs, [4, 5]) := by kernel_rfl
theorem ok_sReadRecs : p_sReadRecs.Ok PG 54 := mkOk (env_cons ok_sUnframe (env_cons ok_sReadRec (env_cons ok_sFrame (env_nil PG)))) k_sReadRecs (by kernel_rfl)
theorem e_sReadRecs (n : Nat) (a0 : Int) (a1 : ByteArray) : f_sReadRecs n (a0, a1) =
  Option.bind (g_sUnframe a1) fun r0 =>
  Option.bind (loopT n (X := (List (Int × Int × Int × Int × Int × Int × Int × Bool × (List (Int × Int)) × (List (Int)) × Int × Int × (List (Int × Int)) × Int)) × Int × Int) (B := ((List (Int × Int × Int × Int × Int × Int × Int × Bool × (List (Int × Int)) × (List (Int)) × Int × Int × (List (Int × Int)) × Int)) × Int) ⊕ ((List (Int × Int × Int × Int × Int × Int × Int × Bool × (List (Int × Int)) × (List (Int)) × Int × Int × (List (Int × Int)) × Int)) × Int)) (fun self2 x1 =>
    bif decide (x1.2.2 < (r0.1.1.length : Int)) then
     bnd r0.1.1.length x1.2.2 fun n3 =>
     Option.bind r0.1.1[n3]? fun y4 =>
     Option.bind (g_sReadRec (a0, y4)) fun r5 =>
     bif !r5.1.2.2.2.2.2.2.2.2.2.2.2.2.2.2 then
      some (Sum.inr (x1.1, x1.2.1))
     else bif decide (x1.1.length + ([(r5.1.1, r5.1.2.1, r5.1.2.2.1, r5.1.2.2.2.1, r5.1.2.2.2.2.1, r5.1.2.2.2.2.2.1, r5.1.2.2.2.2.2.2.1, r5.1.2.2.2.2.2.2.2.1, r5.1.2.2.2.2.2.2.2.2.1, r5.1.2.2.2.2.2.2.2.2.2.1, r5.1.2.2.2.2.2.2.2.2.2.2.1, r5.1.2.2.2.2.2.2.2.2.2.2.2.1, r5.1.2.2.2.2.2.2.2.2.2.2.2.2.1, r5.1.2.2.2.2.2.2.2.2.2.2.2.2.2.1)]).length ≤ 4294967296) then
      bnd r0.1.1.length x1.2.2 fun n6 =>
      Option.bind r0.1.1[n6]? fun y7 =>
      Option.bind (g_sFrame y7) fun r8 =>
      self2 (x1.1 ++ ([(r5.1.1, r5.1.2.1, r5.1.2.2.1, r5.1.2.2.2.1, r5.1.2.2.2.2.1, r5.1.2.2.2.2.2.1, r5.1.2.2.2.2.2.2.1, r5.1.2.2.2.2.2.2.2.1, r5.1.2.2.2.2.2.2.2.2.1, r5.1.2.2.2.2.2.2.2.2.2.1, r5.1.2.2.2.2.2.2.2.2.2.2.1, r5.1.2.2.2.2.2.2.2.2.2.2.2.1, r5.1.2.2.2.2.2.2.2.2.2.2.2.2.1, r5.1.2.2.2.2.2.2.2.2.2.2.2.2.2.1)]), IntKind.wrap .i64 (x1.2.1 + (r8.1.1.size : Int)), IntKind.wrap .i64 (x1.2.2 + (1 : Int)))
     else none
    else some (Sum.inl (x1.1, x1.2.1))) ([], (0 : Int), (0 : Int)) : Option (((List (Int × Int × Int × Int × Int × Int × Int × Bool × (List (Int × Int)) × (List (Int)) × Int × Int × (List (Int × Int)) × Int)) × Int) ⊕ ((List (Int × Int × Int × Int × Int × Int × Int × Bool × (List (Int × Int)) × (List (Int)) × Int × Int × (List (Int × Int)) × Int)) × Int))) fun y => match y with
  | .inl x9 =>
   some (x9, ())
  | .inr x9 =>
   some (x9, ()) := by kernel_rfl
def c_iin : TC :=
 (.seq (.rg [o1 6 (.lit [.b] [.bool false])])
 (.seq (.join [⟨6, [.b], false⟩] 32704 none (.rg [o1 7 (.copy 0),
   o1 8 (.copy 1),
   o1 9 (.data (.bin .geq) [.t 7, .t 8]),
   o1 10 (.copy 9),
   o2 11 (.copy 0) 3 true,
   o2 12 (.copy 2) 3 true,
   o2 13 (.data (.bin .leq) [.t 11, .t 12]) 3 true,
   ⟨false, [], [], .pick 10 (.t 13) (.c (.bool false)), [14], (some 14), none⟩,
   o1 6 (.copy 14)]))
 .ret))
def s_iin : Sig := ⟨[.rd false [.d], .rd false [.d], .rd false [.d]], (.one false [.d])⟩
noncomputable def E_iin : TEnv := envOf []
noncomputable def f_iin (n : Nat) : Int × Int × Int → Option ((Bool) × Unit) := runFn n E_iin c_iin [[.i .i64], [.i .i64], [.i .i64]] [.b] [] [6] .no
noncomputable def g_iin := f_iin BIG
noncomputable def p_iin : TSp := ⟨s_iin, [[.i .i64], [.i .i64], [.i .i64]], [.b], [], Ou.j .no, g_iin⟩
theorem k_iin : chkW PG E_iin 101 s_iin (c_iin.ht 15) .no = some (c_iin.wc E_iin, [6]) := by kernel_rfl
theorem ok_iin : p_iin.Ok PG 101 := mkOk (env_nil PG) k_iin (by kernel_rfl)
theorem e_iin (n : Nat) (a0 : Int) (a1 : Int) (a2 : Int) : f_iin n (a0, a1, a2) =
  Option.bind (bif decide (a1 ≤ a0) then
    some (decide (a0 ≤ a2))
   else some false : Option (Bool)) fun x0 =>
  some (x0, ()) := by kernel_rfl
def c_iReadVar : TC :=
 (.seq (.rg [o1 4 (.lit [.i .i64] [.int .i64 (0)]),
   o1 5 (.lit [.i .i64] [.int .i64 (0)]),
   o1 6 (.lit [.b] [.bool false])])
 (.seq (.seq (.rg [o1 11 (.copy 1),
   o1 12 (.copy 0),
   o1 13 (.data .slen [.t 12]),
   o3 14 101 [.t 11, .c [.i .i64] [.int .i64 (0)], .t 13],
   o1 15 (.data .not [.t 14])])
 (.cond (.t 15)
  (.seq (.rg [o1 4 (.lit [.i .i64] [.int .i64 (0)]),
    o1 5 (.lit [.i .i64] [.int .i64 (0)]),
    o1 6 (.lit [.b] [.bool false])])
  .ret)
  .skip))
 (.seq (.rg [o1 7 (.lit [.i .i64] [.int .i64 (0)]),
   o1 8 (.lit [.i .i64] [.int .i64 (1)])])
 (.seq (.join [] 144115188075792368 (some [⟨4, [.i .i64], false⟩, ⟨5, [.i .i64], false⟩, ⟨6, [.b], false⟩]) (.seq (.rg [o1 16 (.copy 1),
   o1 9 (.copy 16)])
 (.block 0 (.loop [⟨7, [.i .i64], false⟩, ⟨8, [.i .i64], false⟩, ⟨9, [.i .i64], false⟩] 144115188075726832
  (.seq (.seq (.join [⟨26, [.b], false⟩] 134086656 none (.rg [o1 17 (.copy 9),
    o1 18 (.copy 0),
    o1 19 (.data .slen [.t 18]),
    o1 20 (.data (.bin .lss) [.t 17, .t 19]),
    o1 21 (.copy 20),
    o2 22 (.copy 9) 4 true,
    o2 23 (.copy 1) 4 true,
    o2 24 (.data (.bin .add) [.t 23, .c (.int .i64 (5))]) 4 true,
    o2 25 (.data (.bin .lss) [.t 22, .t 24]) 4 true,
    ⟨false, [], [], .pick 21 (.t 25) (.c (.bool false)), [26], (some 26), none⟩]))
  (.cond (.t 26)
   .skip
   (.exit 0)))
  (.seq (.block 1 (.seq (.rg [o1 29 (.copy 0),
    o1 30 (.copy 9),
    o1 31 (.data .sidx [.t 29, .t 30]),
    o1 32 (.data (.conv .i64) [.t 31]),
    o1 10 (.copy 32)])
  (.seq (.rg [o1 33 (.copy 7),
    o1 34 (.copy 10),
    o1 35 (.data (.bin .rem) [.t 34, .c (.int .i64 (128))]),
    o1 36 (.copy 8),
    o1 37 (.data (.bin .mul) [.t 35, .t 36]),
    o1 38 (.data (.bin .add) [.t 33, .t 37]),
    o1 7 (.copy 38)])
  (.seq (.rg [o1 39 (.copy 8),
    o1 40 (.data (.bin .mul) [.t 39, .c (.int .i64 (128))]),
    o1 8 (.copy 40)])
  (.seq (.rg [o1 41 (.copy 10),
    o1 42 (.data (.bin .lss) [.t 41, .c (.int .i64 (128))])])
  (.cond (.t 42)
   (.seq (.seq (.join [⟨53, [.b], false⟩] 18005602416459776 none (.rg [o1 43 (.copy 10),
     o1 44 (.data (.bin .eql) [.t 43, .c (.int .i64 (0))]),
     o1 45 (.copy 44),
     o2 46 (.copy 9) 2 true,
     o2 47 (.copy 1) 2 true,
     o2 48 (.data (.bin .gtr) [.t 46, .t 47]) 2 true,
     ⟨false, [], [], .pick 45 (.t 48) (.c (.bool false)), [49], (some 49), none⟩,
     o1 50 (.copy 49),
     o2 51 (.copy 7) 7 false,
     o2 52 (.data (.bin .gtr) [.t 51, .c (.int .i64 (1000000000))]) 7 false,
     ⟨false, [], [], .pick 50 (.c (.bool true)) (.t 52), [53], (some 53), none⟩]))
   (.cond (.t 53)
    (.exit 0)
    .skip))
   (.seq (.rg [o1 54 (.copy 7),
     o1 55 (.copy 9),
     o1 56 (.data (.bin .add) [.t 55, .c (.int .i64 (1))]),
     o1 4 (.copy 54),
     o1 5 (.copy 56),
     o1 6 (.lit [.b] [.bool true])])
   .ret))
   .skip))))))
  (.rg [o1 27 (.copy 9),
    o1 28 (.data (.bin .add) [.t 27, .c (.int .i64 (1))]),
    o1 9 (.copy 28)])))))))
 (.seq (.rg [o1 4 (.lit [.i .i64] [.int .i64 (0)]),
   o1 5 (.lit [.i .i64] [.int .i64 (0)]),
   o1 6 (.lit [.b] [.bool false])])
 .ret)))))
def s_iReadVar : Sig := ⟨[.rd false [.d], .rd false [.d]], (.tup [(false, 1), (false, 1), (false, 1)] [.d, .d, .d])⟩
noncomputable def E_iReadVar : TEnv := envOf [(101, p_iin)]
noncomputable def f_iReadVar (n : Nat) : ByteArray × Int → Option ((Int × Int × Bool) × Unit) := runFn n E_iReadVar c_iReadVar [[.s], [.i .i64]] [.i .i64, .i .i64, .b] [] [4, 5, 6] .no
noncomputable def g_iReadVar := f_iReadVar BIG
noncomputable def p_iReadVar : TSp := ⟨s_iReadVar, [[.s], [.i .i64]], [.i .i64, .i .i64, .b], [], Ou.j .no, g_iReadVar⟩
theorem k_iReadVar : chkW PG E_iReadVar 265 s_iReadVar (c_iReadVar.ht 57) .no = some (c_iReadVar.wc E_iReadVar, [4, 5, 6]) := by kernel_rfl
theorem ok_iReadVar : p_iReadVar.Ok PG 265 := mkOk (env_cons ok_iin (env_nil PG)) k_iReadVar (by kernel_rfl)
theorem e_iReadVar (n : Nat) (a0 : ByteArray) (a1 : Int) : f_iReadVar n (a0, a1) =
  Option.bind (g_iin (a1, (0 : Int), (a0.size : Int))) fun r0 =>
  bif !r0.1 then
   some (((0 : Int), (0 : Int), false), ())
  else Option.bind (loopT n (X := Int × Int × Int) (B := (Unit) ⊕ (Int × Int × Bool)) (fun self2 x1 =>
    Option.bind (bif decide (x1.2.2 < (a0.size : Int)) then
      some (decide (x1.2.2 < (IntKind.wrap .i64 (a1 + (5 : Int)))))
     else some false : Option (Bool)) fun x3 =>
    bif x3 then
     bnd a0.size x1.2.2 fun n4 => Option.bind a0[n4]? fun b5 =>
     bif decide ((128 : Int) = 0) then
      none
     else bif decide ((IntKind.wrap .i64 ((b5.toNat : Int))) < (128 : Int)) then
      Option.bind (bif decide ((IntKind.wrap .i64 ((b5.toNat : Int))) = (0 : Int)) then
        bif decide (a1 < x1.2.2) then
         some true
        else some (decide ((1000000000 : Int) < (IntKind.wrap .i64 (x1.1 + (IntKind.wrap .i64 ((Int.tmod (IntKind.wrap .i64 ((b5.toNat : Int))) (128 : Int)) * x1.2.1))))))
       else some (decide ((1000000000 : Int) < (IntKind.wrap .i64 (x1.1 + (IntKind.wrap .i64 ((Int.tmod (IntKind.wrap .i64 ((b5.toNat : Int))) (128 : Int)) * x1.2.1)))))) : Option (Bool)) fun x6 =>
      bif x6 then
       some (Sum.inl ())
      else some (Sum.inr (IntKind.wrap .i64 (x1.1 + (IntKind.wrap .i64 ((Int.tmod (IntKind.wrap .i64 ((b5.toNat : Int))) (128 : Int)) * x1.2.1))), IntKind.wrap .i64 (x1.2.2 + (1 : Int)), true))
     else self2 (IntKind.wrap .i64 (x1.1 + (IntKind.wrap .i64 ((Int.tmod (IntKind.wrap .i64 ((b5.toNat : Int))) (128 : Int)) * x1.2.1))), IntKind.wrap .i64 (x1.2.1 * (128 : Int)), IntKind.wrap .i64 (x1.2.2 + (1 : Int)))
    else some (Sum.inl ())) ((0 : Int), (1 : Int), a1) : Option ((Unit) ⊕ (Int × Int × Bool))) fun y => match y with
  | .inl x7 =>
   some (((0 : Int), (0 : Int), false), ())
  | .inr x7 =>
   some (x7, ()) := by kernel_rfl
def c_iVarText : TC :=
 (.seq (.rg [o1 2 (.lit [.s] [.string ⟨#[]⟩]),
   o1 3 (.lit [.b] [.bool false])])
 (.seq (.seq (.rg [o1 5 (.copy 0),
   o3 6 101 [.t 5, .c [.i .i64] [.int .i64 (0)], .c [.i .i64] [.int .i64 (1000000000)]],
   o1 7 (.data .not [.t 6])])
 (.cond (.t 7)
  (.seq (.rg [o1 2 (.lit [.s] [.string ⟨#[]⟩]),
    o1 3 (.lit [.b] [.bool false])])
  .ret)
  .skip))
 (.seq (.rg [o1 4 (.lit [.sl [.i .u8]] [.slice none 0 0])])
 (.seq (.join [⟨4, [.sl [.i .u8]], false⟩, ⟨0, [.i .i64], false⟩] 524049 none (.block 0 (.loop [⟨4, [.sl [.i .u8]], false⟩, ⟨0, [.i .i64], false⟩] 524049
  (.seq (.seq (.rg [o1 8 (.copy 0),
    o1 9 (.data (.bin .gtr) [.t 8, .c (.int .i64 (127))])])
  (.cond (.t 9)
   .skip
   (.exit 0)))
  (.block 1 (.seq (.rg [⟨false, [], [], .det 2 (.copy 4), [10, 4], (some 10), none⟩,
    o1 11 (.copy 0),
    o1 12 (.data (.bin .rem) [.t 11, .c (.int .i64 (128))]),
    o1 13 (.data (.bin .add) [.t 12, .c (.int .i64 (128))]),
    o1 14 (.data (.conv .u8) [.t 13]),
    o1 15 (.sli [.i .u8] [.t 14]),
    ⟨false, [], [], .det 2 (.app (some 10) 15), [16, 10], (some 16), none⟩,
    ⟨false, [], [], .det 2 (.copy 16), [4, 16], (some 4), none⟩])
  (.rg [o1 17 (.copy 0),
    o1 18 (.data (.bin .quo) [.t 17, .c (.int .i64 (128))]),
    o1 0 (.copy 18)])))))))
 (.seq (.rg [⟨false, [], [], .det 2 (.copy 4), [19, 4], (some 19), none⟩,
   o1 20 (.copy 0),
   o1 21 (.data (.conv .u8) [.t 20]),
   o1 22 (.sli [.i .u8] [.t 21]),
   ⟨false, [], [], .det 2 (.app (some 19) 22), [23, 19], (some 23), none⟩,
   o1 24 (.bytes 23),
   o1 2 (.copy 24),
   o1 3 (.lit [.b] [.bool true])])
 .ret)))))
def s_iVarText : Sig := ⟨[.rd false [.d]], (.tup [(false, 1), (false, 1)] [.d, .d])⟩
noncomputable def E_iVarText : TEnv := envOf [(101, p_iin)]
noncomputable def f_iVarText (n : Nat) : Int → Option ((ByteArray × Bool) × Unit) := runFn n E_iVarText c_iVarText [[.i .i64]] [.s, .b] [] [2, 3] .no
noncomputable def g_iVarText := f_iVarText BIG
noncomputable def p_iVarText : TSp := ⟨s_iVarText, [[.i .i64]], [.s, .b], [], Ou.j .no, g_iVarText⟩
theorem k_iVarText : chkW PG E_iVarText 321 s_iVarText (c_iVarText.ht 25) .no = some (c_iVarText.wc E_iVarText, [2, 3]) := by kernel_rfl
theorem ok_iVarText : p_iVarText.Ok PG 321 := mkOk (env_cons ok_iin (env_nil PG)) k_iVarText (by kernel_rfl)
theorem e_iVarText (n : Nat) (a0 : Int) : f_iVarText n a0 =
  Option.bind (g_iin (a0, (0 : Int), (1000000000 : Int))) fun r0 =>
  bif !r0.1 then
   some (((ByteArray.mk #[]), false), ())
  else Option.bind (loopT n (X := (List (Int)) × Int) (B := (List (Int)) × Int) (fun self2 x1 =>
    bif decide ((127 : Int) < x1.2) then
     bif decide ((128 : Int) = 0) then
      none
     else bif decide (x1.1.length + ([IntKind.wrap .u8 (IntKind.wrap .i64 ((Int.tmod x1.2 (128 : Int)) + (128 : Int)))]).length ≤ 4294967296) then
      bif decide ((128 : Int) = 0) then
       none
      else self2 (x1.1 ++ ([IntKind.wrap .u8 (IntKind.wrap .i64 ((Int.tmod x1.2 (128 : Int)) + (128 : Int)))]), IntKind.wrap .i64 (Int.tdiv x1.2 (128 : Int)))
     else none
    else some (x1.1, x1.2)) ([], a0) : Option ((List (Int)) × Int)) fun x3 =>
  bif decide (x3.1.length + ([IntKind.wrap .u8 (x3.2)]).length ≤ 4294967296) then
   some ((bytesStr (x3.1 ++ ([IntKind.wrap .u8 (x3.2)])), true), ())
  else none := by kernel_rfl
def c_iSumMore : TC :=
 (.seq (.rg [o1 4 (.lit [.i .u32] [.int .u32 (0)])])
 (.seq (.join [⟨0, [.i .u32], false⟩] 1073741793 none (.seq (.rg [o1 7 (.copy 1),
   o1 8 (.data .slen [.t 7]),
   o1 9 (.lit [.i .i64] [.int .i64 (0)])])
 (.block 0 (.loop [⟨0, [.i .u32], false⟩, ⟨9, [.i .i64], false⟩] 1073741409
  (.seq (.rg [o1 10 (.data (.bin .lss) [.t 9, .t 8])])
  (.seq (.cond (.t 10)
   .skip
   (.exit 0))
  (.seq (.join [⟨0, [.i .u32], false⟩] 536868961 none (.block 1 (.seq (.rg [o1 11 (.copy 9),
    o1 5 (.copy 11)])
  (.seq (.rg [o1 12 (.copy 0),
    o1 13 (.copy 1),
    o1 14 (.copy 5),
    o1 15 (.data .sidx [.t 13, .t 14]),
    o1 16 (.data (.conv .u32) [.t 15]),
    o1 17 (.data (.bin .xor) [.t 12, .t 16]),
    o1 0 (.copy 17)])
  (.seq (.rg [o1 18 (.lit [.i .i64] [.int .i64 (0)])])
  (.block 2 (.loop [⟨0, [.i .u32], false⟩, ⟨18, [.i .i64], false⟩] 536608833
   (.seq (.rg [o1 19 (.data (.bin .lss) [.t 18, .c (.int .i64 (8))])])
   (.seq (.cond (.t 19)
    .skip
    (.exit 2))
   (.seq (.join [⟨0, [.i .u32], false⟩] 267386945 none (.block 3 (.seq (.rg [o1 20 (.copy 0),
     o1 21 (.data (.bin .and) [.t 20, .c (.int .u32 (1))]),
     o1 22 (.data (.bin .eql) [.t 21, .c (.int .u32 (1))]),
     o1 6 (.copy 22)])
   (.seq (.rg [o1 23 (.copy 0),
     o1 24 (.data (.bin .shr) [.t 23, .c (.int .u64 (1))]),
     o1 0 (.copy 24)])
   (.seq (.rg [o1 25 (.copy 6)])
   (.cond (.t 25)
    (.rg [o1 26 (.copy 0),
      o1 27 (.data (.bin .xor) [.t 26, .c (.int .u32 (3558460437))]),
      o1 0 (.copy 27)])
    .skip))))))
   (.rg [o1 28 (.data (.bin .add) [.t 18, .c (.int .i64 (1))]),
     o1 18 (.copy 28)])))))))))))
  (.rg [o1 29 (.data (.bin .add) [.t 9, .c (.int .i64 (1))]),
    o1 9 (.copy 29)]))))))))
 (.seq (.rg [o1 30 (.copy 0),
   o1 4 (.copy 30)])
 .ret)))
def s_iSumMore : Sig := ⟨[.rd false [.d], .rd false [.d]], (.one false [.d])⟩
noncomputable def E_iSumMore : TEnv := envOf []
noncomputable def f_iSumMore (n : Nat) : Int × ByteArray → Option ((Int) × Unit) := runFn n E_iSumMore c_iSumMore [[.i .u32], [.s]] [.i .u32] [] [4] .no
noncomputable def g_iSumMore := f_iSumMore BIG
noncomputable def p_iSumMore : TSp := ⟨s_iSumMore, [[.i .u32], [.s]], [.i .u32], [], Ou.j .no, g_iSumMore⟩
theorem k_iSumMore : chkW PG E_iSumMore 337 s_iSumMore (c_iSumMore.ht 31) .no = some (c_iSumMore.wc E_iSumMore, [4]) := by kernel_rfl
theorem ok_iSumMore : p_iSumMore.Ok PG 337 := mkOk (env_nil PG) k_iSumMore (by kernel_rfl)
theorem e_iSumMore (n : Nat) (a0 : Int) (a1 : ByteArray) : f_iSumMore n (a0, a1) =
  Option.bind (loopT n (X := Int × Int) (B := Int) (fun self1 x0 =>
    bif decide (x0.2 < (a1.size : Int)) then
     Option.bind (bnd a1.size x0.2 fun n2 => Option.bind a1[n2]? fun b3 =>
      loopT n (X := Int × Int) (B := Int) (fun self5 x4 =>
       bif decide (x4.2 < (8 : Int)) then
        Option.bind (bif decide ((1 : Int) < 0) then
          none
         else bif decide ((bits .and .u32 x4.1 (1 : Int)) = (1 : Int)) then
          some (bits .xor .u32 (Int.fdiv x4.1 (2 ^ (Nat.min (Int.toNat (1 : Int)) (IntKind.bits .u32)))) (3558460437 : Int))
         else some (Int.fdiv x4.1 (2 ^ (Nat.min (Int.toNat (1 : Int)) (IntKind.bits .u32)))) : Option (Int)) fun x6 =>
        self5 (x6, IntKind.wrap .i64 (x4.2 + (1 : Int)))
       else some x4.1) (bits .xor .u32 x0.1 (IntKind.wrap .u32 ((b3.toNat : Int))), (0 : Int)) : Option (Int)) fun x7 =>
     self1 (x7, IntKind.wrap .i64 (x0.2 + (1 : Int)))
    else some x0.1) (a0, (0 : Int)) : Option (Int)) fun x8 =>
  some (x8, ()) := by kernel_rfl
def c_iSumOf : TC :=
 (.seq (.rg [o1 2 (.lit [.i .u32] [.int .u32 (0)])])
 (.seq (.rg [o1 3 (.copy 0),
   o3 4 337 [.c [.i .u32] [.int .u32 (4294967295)], .t 3],
   o1 2 (.copy 4)])
 .ret))
def s_iSumOf : Sig := ⟨[.rd false [.d]], (.one false [.d])⟩
noncomputable def E_iSumOf : TEnv := envOf [(337, p_iSumMore)]
noncomputable def f_iSumOf (n : Nat) : ByteArray → Option ((Int) × Unit) := runFn n E_iSumOf c_iSumOf [[.s]] [.i .u32] [] [2] .no
noncomputable def g_iSumOf := f_iSumOf BIG
noncomputable def p_iSumOf : TSp := ⟨s_iSumOf, [[.s]], [.i .u32], [], Ou.j .no, g_iSumOf⟩
theorem k_iSumOf : chkW PG E_iSumOf 322 s_iSumOf (c_iSumOf.ht 5) .no = some (c_iSumOf.wc E_iSumOf, [2]) := by kernel_rfl
theorem ok_iSumOf : p_iSumOf.Ok PG 322 := mkOk (env_cons ok_iSumMore (env_nil PG)) k_iSumOf (by kernel_rfl)
theorem e_iSumOf (n : Nat) (a0 : ByteArray) : f_iSumOf n a0 =
  Option.bind (g_iSumMore ((4294967295 : Int), a0)) fun r0 =>
  some (r0.1, ()) := by kernel_rfl
def c_iFrame : TC :=
 (.seq (.rg [o1 2 (.lit [.s] [.string ⟨#[]⟩]),
   o1 3 (.lit [.b] [.bool false])])
 (.seq (.seq (.rg [o1 7 (.copy 0),
   o1 8 (.data .slen [.t 7]),
   o3 9 101 [.t 8, .c [.i .i64] [.int .i64 (1)], .c [.i .i64] [.int .i64 (9000)]],
   o1 10 (.data .not [.t 9])])
 (.cond (.t 10)
  (.seq (.rg [o1 2 (.lit [.s] [.string ⟨#[]⟩]),
    o1 3 (.lit [.b] [.bool false])])
  .ret)
  .skip))
 (.seq (.rg [o1 12 (.copy 0),
   o1 13 (.data .slen [.t 12]),
   o3 14 321 [.t 13],
   ⟨false, [], [], .det 2 (.copy 14), [11, 14], (some 11), none⟩,
   o1 15 (.ext 11 0 1),
   o1 16 (.ext 11 1 1),
   o1 4 (.copy 15),
   o1 5 (.copy 16)])
 (.seq (.rg [o1 17 (.copy 0),
   o3 18 322 [.t 17],
   o1 6 (.copy 18)])
 (.seq (.rg [o1 19 (.copy 4),
   o1 20 (.copy 6),
   o1 21 (.data (.bin .shr) [.t 20, .c (.int .u64 (24))]),
   o1 22 (.data (.conv .u8) [.t 21]),
   o1 23 (.copy 6),
   o1 24 (.data (.bin .shr) [.t 23, .c (.int .u64 (16))]),
   o1 25 (.data (.conv .u8) [.t 24]),
   o1 26 (.copy 6),
   o1 27 (.data (.bin .shr) [.t 26, .c (.int .u64 (8))]),
   o1 28 (.data (.conv .u8) [.t 27]),
   o1 29 (.copy 6),
   o1 30 (.data (.conv .u8) [.t 29]),
   o1 31 (.sli [.i .u8] [.t 22, .t 25, .t 28, .t 30]),
   o1 32 (.bytes 31),
   o1 33 (.data (.bin .add) [.t 19, .t 32]),
   o1 34 (.copy 0),
   o1 35 (.data (.bin .add) [.t 33, .t 34]),
   o1 2 (.copy 35),
   o1 3 (.lit [.b] [.bool true])])
 .ret)))))
def s_iFrame : Sig := ⟨[.rd false [.d]], (.tup [(false, 1), (false, 1)] [.d, .d])⟩
noncomputable def E_iFrame : TEnv := envOf [(101, p_iin), (321, p_iVarText), (322, p_iSumOf)]
noncomputable def f_iFrame (n : Nat) : ByteArray → Option ((ByteArray × Bool) × Unit) := runFn n E_iFrame c_iFrame [[.s]] [.s, .b] [] [2, 3] .no
noncomputable def g_iFrame := f_iFrame BIG
noncomputable def p_iFrame : TSp := ⟨s_iFrame, [[.s]], [.s, .b], [], Ou.j .no, g_iFrame⟩
theorem k_iFrame : chkW PG E_iFrame 266 s_iFrame (c_iFrame.ht 36) .no = some (c_iFrame.wc E_iFrame, [2, 3]) := by kernel_rfl
theorem ok_iFrame : p_iFrame.Ok PG 266 := mkOk (env_cons ok_iin (env_cons ok_iVarText (env_cons ok_iSumOf (env_nil PG)))) k_iFrame (by kernel_rfl)
theorem e_iFrame (n : Nat) (a0 : ByteArray) : f_iFrame n a0 =
  Option.bind (g_iin ((a0.size : Int), (1 : Int), (9000 : Int))) fun r0 =>
  bif !r0.1 then
   some (((ByteArray.mk #[]), false), ())
  else Option.bind (g_iVarText (a0.size : Int)) fun r1 =>
  Option.bind (g_iSumOf a0) fun r2 =>
  bif decide ((24 : Int) < 0) then
   none
  else bif decide ((16 : Int) < 0) then
   none
  else bif decide ((8 : Int) < 0) then
   none
  else bif decide (r1.1.1.size + (bytesStr ([IntKind.wrap .u8 (Int.fdiv r2.1 (2 ^ (Nat.min (Int.toNat (24 : Int)) (IntKind.bits .u32)))), IntKind.wrap .u8 (Int.fdiv r2.1 (2 ^ (Nat.min (Int.toNat (16 : Int)) (IntKind.bits .u32)))), IntKind.wrap .u8 (Int.fdiv r2.1 (2 ^ (Nat.min (Int.toNat (8 : Int)) (IntKind.bits .u32)))), IntKind.wrap .u8 (r2.1)])).size ≤ 4611686018427387904) then
   bif decide ((r1.1.1 ++ (bytesStr ([IntKind.wrap .u8 (Int.fdiv r2.1 (2 ^ (Nat.min (Int.toNat (24 : Int)) (IntKind.bits .u32)))), IntKind.wrap .u8 (Int.fdiv r2.1 (2 ^ (Nat.min (Int.toNat (16 : Int)) (IntKind.bits .u32)))), IntKind.wrap .u8 (Int.fdiv r2.1 (2 ^ (Nat.min (Int.toNat (8 : Int)) (IntKind.bits .u32)))), IntKind.wrap .u8 (r2.1)]))).size + a0.size ≤ 4611686018427387904) then
    some (((r1.1.1 ++ (bytesStr ([IntKind.wrap .u8 (Int.fdiv r2.1 (2 ^ (Nat.min (Int.toNat (24 : Int)) (IntKind.bits .u32)))), IntKind.wrap .u8 (Int.fdiv r2.1 (2 ^ (Nat.min (Int.toNat (16 : Int)) (IntKind.bits .u32)))), IntKind.wrap .u8 (Int.fdiv r2.1 (2 ^ (Nat.min (Int.toNat (8 : Int)) (IntKind.bits .u32)))), IntKind.wrap .u8 (r2.1)]))) ++ a0, true), ())
   else none
  else none := by kernel_rfl
def c_iframeAt : TC :=
 (.seq (.rg [o1 4 (.lit [.s] [.string ⟨#[]⟩]),
   o1 5 (.lit [.i .i64] [.int .i64 (0)]),
   o1 6 (.lit [.b] [.bool false])])
 (.seq (.rg [o1 14 (.copy 0),
   o1 15 (.copy 1),
   o3 16 265 [.t 14, .t 15],
   ⟨false, [], [], .det 2 (.copy 16), [13, 16], (some 13), none⟩,
   o1 17 (.ext 13 0 1),
   o1 18 (.ext 13 1 1),
   o1 19 (.ext 13 2 1),
   o1 7 (.copy 17),
   o1 8 (.copy 18),
   o1 9 (.copy 19)])
 (.seq (.seq (.join [⟨35, [.b], false⟩] 68718428160 none (.rg [o1 20 (.copy 9),
   o1 21 (.data .not [.t 20]),
   o1 22 (.copy 21),
   o2 23 (.copy 7) 2 false,
   ⟨false, [], [], .call 1 101 [.t 23, .c [.i .i64] [.int .i64 (1)], .c [.i .i64] [.int .i64 (9000)]] .no, [24], (some 24), some (2, false)⟩,
   o2 25 (.data .not [.t 24]) 2 false,
   ⟨false, [], [], .pick 22 (.c (.bool true)) (.t 25), [26], (some 26), none⟩,
   o1 27 (.copy 26),
   o2 28 (.copy 0) 7 false,
   o2 29 (.data .slen [.t 28]) 7 false,
   o2 30 (.copy 8) 7 false,
   o2 31 (.data (.bin .sub) [.t 29, .t 30]) 7 false,
   o2 32 (.copy 7) 7 false,
   o2 33 (.data (.bin .add) [.c (.int .i64 (4)), .t 32]) 7 false,
   o2 34 (.data (.bin .lss) [.t 31, .t 33]) 7 false,
   ⟨false, [], [], .pick 27 (.c (.bool true)) (.t 34), [35], (some 35), none⟩]))
 (.cond (.t 35)
  (.seq (.rg [o1 4 (.lit [.s] [.string ⟨#[]⟩]),
    o1 5 (.lit [.i .i64] [.int .i64 (0)]),
    o1 6 (.lit [.b] [.bool false])])
  .ret)
  .skip))
 (.seq (.rg [o1 36 (.copy 0),
   o1 37 (.copy 8),
   o1 38 (.data (.bin .add) [.t 37, .c (.int .i64 (4))]),
   o1 39 (.copy 8),
   o1 40 (.data (.bin .add) [.t 39, .c (.int .i64 (4))]),
   o1 41 (.copy 7),
   o1 42 (.data (.bin .add) [.t 40, .t 41]),
   o1 43 (.data (.ssl true true) [.t 36, .t 38, .t 42]),
   o1 10 (.copy 43)])
 (.seq (.rg [o1 45 (.copy 10),
   o3 46 266 [.t 45],
   ⟨false, [], [], .det 2 (.copy 46), [44, 46], (some 44), none⟩,
   o1 47 (.ext 44 0 1),
   o1 48 (.ext 44 1 1),
   o1 11 (.copy 47),
   o1 12 (.copy 48)])
 (.seq (.seq (.rg [o1 49 (.copy 11),
   o1 50 (.copy 0),
   o1 51 (.copy 1),
   o1 52 (.copy 8),
   o1 53 (.data (.bin .add) [.t 52, .c (.int .i64 (4))]),
   o1 54 (.copy 7),
   o1 55 (.data (.bin .add) [.t 53, .t 54]),
   o1 56 (.data (.ssl true true) [.t 50, .t 51, .t 55]),
   o1 57 (.data (.bin .neq) [.t 49, .t 56])])
 (.cond (.t 57)
  (.seq (.rg [o1 4 (.lit [.s] [.string ⟨#[]⟩]),
    o1 5 (.lit [.i .i64] [.int .i64 (0)]),
    o1 6 (.lit [.b] [.bool false])])
  .ret)
  .skip))
 (.seq (.rg [o1 58 (.copy 10),
   o1 59 (.copy 8),
   o1 60 (.data (.bin .add) [.t 59, .c (.int .i64 (4))]),
   o1 61 (.copy 7),
   o1 62 (.data (.bin .add) [.t 60, .t 61]),
   o1 4 (.copy 58),
   o1 5 (.copy 62),
   o1 6 (.lit [.b] [.bool true])])
 .ret)))))))
def s_iframeAt : Sig := ⟨[.rd false [.d], .rd false [.d]], (.tup [(false, 1), (false, 1), (false, 1)] [.d, .d, .d])⟩
noncomputable def E_iframeAt : TEnv := envOf [(265, p_iReadVar), (101, p_iin), (266, p_iFrame)]
noncomputable def f_iframeAt (n : Nat) : ByteArray × Int → Option ((ByteArray × Int × Bool) × Unit) := runFn n E_iframeAt c_iframeAt [[.s], [.i .i64]] [.s, .i .i64, .b] [] [4, 5, 6] .no
noncomputable def g_iframeAt := f_iframeAt BIG
noncomputable def p_iframeAt : TSp := ⟨s_iframeAt, [[.s], [.i .i64]], [.s, .i .i64, .b], [], Ou.j .no, g_iframeAt⟩
theorem k_iframeAt : chkW PG E_iframeAt 143 s_iframeAt (c_iframeAt.ht 63) .no = some (c_iframeAt.wc E_iframeAt, [4, 5, 6]) := by kernel_rfl
theorem ok_iframeAt : p_iframeAt.Ok PG 143 := mkOk (env_cons ok_iReadVar (env_cons ok_iin (env_cons ok_iFrame (env_nil PG)))) k_iframeAt (by kernel_rfl)
theorem e_iframeAt (n : Nat) (a0 : ByteArray) (a1 : Int) : f_iframeAt n (a0, a1) =
  Option.bind (g_iReadVar (a0, a1)) fun r0 =>
  Option.bind (bif !r0.1.2.2 then
    some true
   else Option.bind (g_iin (r0.1.1, (1 : Int), (9000 : Int))) fun r1 =>
   bif !r1.1 then
    some true
   else some (decide ((IntKind.wrap .i64 ((a0.size : Int) - r0.1.2.1)) < (IntKind.wrap .i64 ((4 : Int) + r0.1.1)))) : Option (Bool)) fun x2 =>
  bif x2 then
   some (((ByteArray.mk #[]), (0 : Int), false), ())
  else bif decide (0 ≤ (IntKind.wrap .i64 (r0.1.2.1 + (4 : Int))) ∧ (IntKind.wrap .i64 (r0.1.2.1 + (4 : Int))) ≤ (IntKind.wrap .i64 ((IntKind.wrap .i64 (r0.1.2.1 + (4 : Int))) + r0.1.1)) ∧ (IntKind.wrap .i64 ((IntKind.wrap .i64 (r0.1.2.1 + (4 : Int))) + r0.1.1)) ≤ a0.size) then
   Option.bind (g_iFrame (a0.extract (Int.toNat (IntKind.wrap .i64 (r0.1.2.1 + (4 : Int)))) (Int.toNat (IntKind.wrap .i64 ((IntKind.wrap .i64 (r0.1.2.1 + (4 : Int))) + r0.1.1))))) fun r3 =>
   bif decide (0 ≤ a1 ∧ a1 ≤ (IntKind.wrap .i64 ((IntKind.wrap .i64 (r0.1.2.1 + (4 : Int))) + r0.1.1)) ∧ (IntKind.wrap .i64 ((IntKind.wrap .i64 (r0.1.2.1 + (4 : Int))) + r0.1.1)) ≤ a0.size) then
    bif !(r3.1.1.toList == (a0.extract (Int.toNat a1) (Int.toNat (IntKind.wrap .i64 ((IntKind.wrap .i64 (r0.1.2.1 + (4 : Int))) + r0.1.1)))).toList) then
     some (((ByteArray.mk #[]), (0 : Int), false), ())
    else some ((a0.extract (Int.toNat (IntKind.wrap .i64 (r0.1.2.1 + (4 : Int)))) (Int.toNat (IntKind.wrap .i64 ((IntKind.wrap .i64 (r0.1.2.1 + (4 : Int))) + r0.1.1))), IntKind.wrap .i64 ((IntKind.wrap .i64 (r0.1.2.1 + (4 : Int))) + r0.1.1), true), ())
   else none
  else none := by kernel_rfl
def c_ireader_one : TC :=
 (.seq (.rg [o1 2 (.lit [.i .i64] [.int .i64 (0)])])
 (.seq (.seq (.join [⟨18, [.b], false⟩] 524280 none (.rg [o1 3 (.p0),
   o1 4 (.same 3),
   o1 5 (.idx (.t 4)),
   o1 6 (.load 0 [] 2 (.t 5) 1 false),
   o1 7 (.copy 6),
   o2 8 (.p0) 4 false,
   o2 9 (.same 8) 4 false,
   o2 10 (.idx (.t 9)) 4 false,
   o2 11 (.load 0 [] 1 (.t 10) 1 false) 4 false,
   o2 12 (.p0) 4 false,
   o2 13 (.same 12) 4 false,
   o2 14 (.idx (.t 13)) 4 false,
   o2 15 (.load 0 [] 0 (.t 14) 1 false) 4 false,
   o2 16 (.data .slen [.t 15]) 4 false,
   o2 17 (.data (.bin .geq) [.t 11, .t 16]) 4 false,
   ⟨false, [], [], .pick 7 (.c (.bool true)) (.t 17), [18], (some 18), none⟩]))
 (.cond (.t 18)
  (.seq (.rg [o1 19 (.p0),
    o1 20 (.same 19),
    o1 21 (.idx (.t 20)),
    o4 1 [0] (.store 0 [] 2 (.t 21) (.c [.b] [.bool true]))])
  (.seq (.rg [o1 2 (.lit [.i .i64] [.int .i64 (0)])])
  .ret))
  .skip))
 (.seq (.rg [o1 22 (.p0),
   o1 23 (.same 22),
   o1 24 (.idx (.t 23)),
   o1 25 (.load 0 [] 1 (.t 24) 1 false),
   o1 26 (.data (.bin .add) [.t 25, .c (.int .i64 (1))]),
   o1 27 (.same 22),
   o1 28 (.idx (.t 27)),
   o4 1 [0] (.store 0 [] 1 (.t 28) (.t 26))])
 (.seq (.rg [o1 29 (.p0),
   o1 30 (.same 29),
   o1 31 (.idx (.t 30)),
   o1 32 (.load 0 [] 0 (.t 31) 1 false),
   o1 33 (.p0),
   o1 34 (.same 33),
   o1 35 (.idx (.t 34)),
   o1 36 (.load 0 [] 1 (.t 35) 1 false),
   o1 37 (.data (.bin .sub) [.t 36, .c (.int .i64 (1))]),
   o1 38 (.data .sidx [.t 32, .t 37]),
   o1 39 (.data (.conv .i64) [.t 38]),
   o1 2 (.copy 39)])
 .ret))))
def s_ireader_one : Sig := ⟨[.mp [.d, .d, .d]], (.one false [.d])⟩
noncomputable def E_ireader_one : TEnv := envOf []
noncomputable def f_ireader_one (n : Nat) : (ByteArray × Int × Bool) → Option ((Int) × ByteArray × Int × Bool) := runFn n E_ireader_one c_ireader_one [[.s, .i .i64, .b]] [.i .i64] [.s, .i .i64, .b] [2] (.mp 0)
noncomputable def g_ireader_one := f_ireader_one BIG
noncomputable def p_ireader_one : TSp := ⟨s_ireader_one, [[.s, .i .i64, .b]], [.i .i64], [.s, .i .i64, .b], Ou.j (.mp 0), g_ireader_one⟩
theorem k_ireader_one : chkW PG E_ireader_one 267 s_ireader_one (c_ireader_one.ht 40) (.mp 0) = some (c_ireader_one.wc E_ireader_one, [2]) := by kernel_rfl
theorem ok_ireader_one : p_ireader_one.Ok PG 267 := mkOk (env_nil PG) k_ireader_one (by kernel_rfl)
theorem e_ireader_one (n : Nat) (a0 : ByteArray × Int × Bool) : f_ireader_one n a0 =
  Option.bind (bif a0.2.2 then
    some true
   else some (decide ((a0.1.size : Int) ≤ a0.2.1)) : Option (Bool)) fun x0 =>
  bif x0 then
   some ((0 : Int), (a0.1, a0.2.1, true))
  else bnd a0.1.size (IntKind.wrap .i64 ((IntKind.wrap .i64 (a0.2.1 + (1 : Int))) - (1 : Int))) fun n1 => Option.bind a0.1[n1]? fun b2 =>
  some (IntKind.wrap .i64 ((b2.toNat : Int)), (a0.1, IntKind.wrap .i64 (a0.2.1 + (1 : Int)), a0.2.2)) := by kernel_rfl
def c_ireader_num : TC :=
 (.seq (.rg [o1 2 (.lit [.i .i64] [.int .i64 (0)])])
 (.seq (.rg [o1 7 (.p0),
   o1 8 (.same 7),
   o1 9 (.idx (.t 8)),
   o1 10 (.load 0 [] 0 (.t 9) 1 false),
   o1 11 (.p0),
   o1 12 (.same 11),
   o1 13 (.idx (.t 12)),
   o1 14 (.load 0 [] 1 (.t 13) 1 false),
   o3 15 265 [.t 10, .t 14],
   ⟨false, [], [], .det 2 (.copy 15), [6, 15], (some 6), none⟩,
   o1 16 (.ext 6 0 1),
   o1 17 (.ext 6 1 1),
   o1 18 (.ext 6 2 1),
   o1 3 (.copy 16),
   o1 4 (.copy 17),
   o1 5 (.copy 18)])
 (.seq (.seq (.join [⟨26, [.b], false⟩] 133693440 none (.rg [o1 19 (.p0),
   o1 20 (.same 19),
   o1 21 (.idx (.t 20)),
   o1 22 (.load 0 [] 2 (.t 21) 1 false),
   o1 23 (.copy 22),
   o2 24 (.copy 5) 4 false,
   o2 25 (.data .not [.t 24]) 4 false,
   ⟨false, [], [], .pick 23 (.c (.bool true)) (.t 25), [26], (some 26), none⟩]))
 (.cond (.t 26)
  (.seq (.rg [o1 27 (.p0),
    o1 28 (.same 27),
    o1 29 (.idx (.t 28)),
    o4 1 [0] (.store 0 [] 2 (.t 29) (.c [.b] [.bool true]))])
  (.seq (.rg [o1 2 (.lit [.i .i64] [.int .i64 (0)])])
  .ret))
  .skip))
 (.seq (.rg [o1 30 (.p0),
   o1 31 (.copy 4),
   o1 32 (.same 30),
   o1 33 (.idx (.t 32)),
   o4 1 [0] (.store 0 [] 1 (.t 33) (.t 31))])
 (.seq (.rg [o1 34 (.copy 3),
   o1 2 (.copy 34)])
 .ret)))))
def s_ireader_num : Sig := ⟨[.mp [.d, .d, .d]], (.one false [.d])⟩
noncomputable def E_ireader_num : TEnv := envOf [(265, p_iReadVar)]
noncomputable def f_ireader_num (n : Nat) : (ByteArray × Int × Bool) → Option ((Int) × ByteArray × Int × Bool) := runFn n E_ireader_num c_ireader_num [[.s, .i .i64, .b]] [.i .i64] [.s, .i .i64, .b] [2] (.mp 0)
noncomputable def g_ireader_num := f_ireader_num BIG
noncomputable def p_ireader_num : TSp := ⟨s_ireader_num, [[.s, .i .i64, .b]], [.i .i64], [.s, .i .i64, .b], Ou.j (.mp 0), g_ireader_num⟩
theorem k_ireader_num : chkW PG E_ireader_num 268 s_ireader_num (c_ireader_num.ht 35) (.mp 0) = some (c_ireader_num.wc E_ireader_num, [2]) := by kernel_rfl
theorem ok_ireader_num : p_ireader_num.Ok PG 268 := mkOk (env_cons ok_iReadVar (env_nil PG)) k_ireader_num (by kernel_rfl)
theorem e_ireader_num (n : Nat) (a0 : ByteArray × Int × Bool) : f_ireader_num n a0 =
  Option.bind (g_iReadVar (a0.1, a0.2.1)) fun r0 =>
  Option.bind (bif a0.2.2 then
    some true
   else some !r0.1.2.2 : Option (Bool)) fun x1 =>
  bif x1 then
   some ((0 : Int), (a0.1, a0.2.1, true))
  else some (r0.1.1, (a0.1, r0.1.2.1, a0.2.2)) := by kernel_rfl
def c_iReadShort : TC :=
 (.seq (.rg [o1 4 (.lit [.s] [.string ⟨#[]⟩]),
   o1 5 (.lit [.i .i64] [.int .i64 (0)]),
   o1 6 (.lit [.b] [.bool false])])
 (.seq (.rg [o1 11 (.copy 0),
   o1 12 (.copy 1),
   o3 13 265 [.t 11, .t 12],
   ⟨false, [], [], .det 2 (.copy 13), [10, 13], (some 10), none⟩,
   o1 14 (.ext 10 0 1),
   o1 15 (.ext 10 1 1),
   o1 16 (.ext 10 2 1),
   o1 7 (.copy 14),
   o1 8 (.copy 15),
   o1 9 (.copy 16)])
 (.seq (.seq (.join [⟨30, [.b], false⟩] 2147352576 none (.rg [o1 17 (.copy 9),
   o1 18 (.data .not [.t 17]),
   o1 19 (.copy 18),
   o2 20 (.copy 7) 2 false,
   o2 21 (.data (.bin .gtr) [.t 20, .c (.int .i64 (20000))]) 2 false,
   ⟨false, [], [], .pick 19 (.c (.bool true)) (.t 21), [22], (some 22), none⟩,
   o1 23 (.copy 22),
   o2 24 (.copy 7) 6 false,
   o2 25 (.copy 0) 6 false,
   o2 26 (.data .slen [.t 25]) 6 false,
   o2 27 (.copy 8) 6 false,
   o2 28 (.data (.bin .sub) [.t 26, .t 27]) 6 false,
   o2 29 (.data (.bin .gtr) [.t 24, .t 28]) 6 false,
   ⟨false, [], [], .pick 23 (.c (.bool true)) (.t 29), [30], (some 30), none⟩]))
 (.cond (.t 30)
  (.seq (.rg [o1 4 (.lit [.s] [.string ⟨#[]⟩]),
    o1 5 (.lit [.i .i64] [.int .i64 (0)]),
    o1 6 (.lit [.b] [.bool false])])
  .ret)
  .skip))
 (.seq (.rg [o1 31 (.copy 0),
   o1 32 (.copy 8),
   o1 33 (.copy 8),
   o1 34 (.copy 7),
   o1 35 (.data (.bin .add) [.t 33, .t 34]),
   o1 36 (.data (.ssl true true) [.t 31, .t 32, .t 35]),
   o1 37 (.copy 8),
   o1 38 (.copy 7),
   o1 39 (.data (.bin .add) [.t 37, .t 38]),
   o1 4 (.copy 36),
   o1 5 (.copy 39),
   o1 6 (.lit [.b] [.bool true])])
 .ret))))
def s_iReadShort : Sig := ⟨[.rd false [.d], .rd false [.d]], (.tup [(false, 1), (false, 1), (false, 1)] [.d, .d, .d])⟩
noncomputable def E_iReadShort : TEnv := envOf [(265, p_iReadVar)]
noncomputable def f_iReadShort (n : Nat) : ByteArray × Int → Option ((ByteArray × Int × Bool) × Unit) := runFn n E_iReadShort c_iReadShort [[.s], [.i .i64]] [.s, .i .i64, .b] [] [4, 5, 6] .no
noncomputable def g_iReadShort := f_iReadShort BIG
noncomputable def p_iReadShort : TSp := ⟨s_iReadShort, [[.s], [.i .i64]], [.s, .i .i64, .b], [], Ou.j .no, g_iReadShort⟩
theorem k_iReadShort : chkW PG E_iReadShort 324 s_iReadShort (c_iReadShort.ht 40) .no = some (c_iReadShort.wc E_iReadShort, [4, 5, 6]) := by kernel_rfl
theorem ok_iReadShort : p_iReadShort.Ok PG 324 := mkOk (env_cons ok_iReadVar (env_nil PG)) k_iReadShort (by kernel_rfl)
theorem e_iReadShort (n : Nat) (a0 : ByteArray) (a1 : Int) : f_iReadShort n (a0, a1) =
  Option.bind (g_iReadVar (a0, a1)) fun r0 =>
  Option.bind (bif !r0.1.2.2 then
    some true
   else bif decide ((20000 : Int) < r0.1.1) then
    some true
   else some (decide ((IntKind.wrap .i64 ((a0.size : Int) - r0.1.2.1)) < r0.1.1)) : Option (Bool)) fun x1 =>
  bif x1 then
   some (((ByteArray.mk #[]), (0 : Int), false), ())
  else bif decide (0 ≤ r0.1.2.1 ∧ r0.1.2.1 ≤ (IntKind.wrap .i64 (r0.1.2.1 + r0.1.1)) ∧ (IntKind.wrap .i64 (r0.1.2.1 + r0.1.1)) ≤ a0.size) then
   some ((a0.extract (Int.toNat r0.1.2.1) (Int.toNat (IntKind.wrap .i64 (r0.1.2.1 + r0.1.1))), IntKind.wrap .i64 (r0.1.2.1 + r0.1.1), true), ())
  else none := by kernel_rfl
def c_ireader_short : TC :=
 (.seq (.rg [o1 2 (.lit [.s] [.string ⟨#[]⟩])])
 (.seq (.rg [o1 7 (.p0),
   o1 8 (.same 7),
   o1 9 (.idx (.t 8)),
   o1 10 (.load 0 [] 0 (.t 9) 1 false),
   o1 11 (.p0),
   o1 12 (.same 11),
   o1 13 (.idx (.t 12)),
   o1 14 (.load 0 [] 1 (.t 13) 1 false),
   o3 15 324 [.t 10, .t 14],
   ⟨false, [], [], .det 2 (.copy 15), [6, 15], (some 6), none⟩,
   o1 16 (.ext 6 0 1),
   o1 17 (.ext 6 1 1),
   o1 18 (.ext 6 2 1),
   o1 3 (.copy 16),
   o1 4 (.copy 17),
   o1 5 (.copy 18)])
 (.seq (.seq (.join [⟨26, [.b], false⟩] 133693440 none (.rg [o1 19 (.p0),
   o1 20 (.same 19),
   o1 21 (.idx (.t 20)),
   o1 22 (.load 0 [] 2 (.t 21) 1 false),
   o1 23 (.copy 22),
   o2 24 (.copy 5) 4 false,
   o2 25 (.data .not [.t 24]) 4 false,
   ⟨false, [], [], .pick 23 (.c (.bool true)) (.t 25), [26], (some 26), none⟩]))
 (.cond (.t 26)
  (.seq (.rg [o1 27 (.p0),
    o1 28 (.same 27),
    o1 29 (.idx (.t 28)),
    o4 1 [0] (.store 0 [] 2 (.t 29) (.c [.b] [.bool true]))])
  (.seq (.rg [o1 2 (.lit [.s] [.string ⟨#[]⟩])])
  .ret))
  .skip))
 (.seq (.rg [o1 30 (.p0),
   o1 31 (.copy 4),
   o1 32 (.same 30),
   o1 33 (.idx (.t 32)),
   o4 1 [0] (.store 0 [] 1 (.t 33) (.t 31))])
 (.seq (.rg [o1 34 (.copy 3),
   o1 2 (.copy 34)])
 .ret)))))
def s_ireader_short : Sig := ⟨[.mp [.d, .d, .d]], (.one false [.d])⟩
noncomputable def E_ireader_short : TEnv := envOf [(324, p_iReadShort)]
noncomputable def f_ireader_short (n : Nat) : (ByteArray × Int × Bool) → Option ((ByteArray) × ByteArray × Int × Bool) := runFn n E_ireader_short c_ireader_short [[.s, .i .i64, .b]] [.s] [.s, .i .i64, .b] [2] (.mp 0)
noncomputable def g_ireader_short := f_ireader_short BIG
noncomputable def p_ireader_short : TSp := ⟨s_ireader_short, [[.s, .i .i64, .b]], [.s], [.s, .i .i64, .b], Ou.j (.mp 0), g_ireader_short⟩
theorem k_ireader_short : chkW PG E_ireader_short 270 s_ireader_short (c_ireader_short.ht 35) (.mp 0) = some (c_ireader_short.wc E_ireader_short, [2]) := by kernel_rfl
theorem ok_ireader_short : p_ireader_short.Ok PG 270 := mkOk (env_cons ok_iReadShort (env_nil PG)) k_ireader_short (by kernel_rfl)
theorem e_ireader_short (n : Nat) (a0 : ByteArray × Int × Bool) : f_ireader_short n a0 =
  Option.bind (g_iReadShort (a0.1, a0.2.1)) fun r0 =>
  Option.bind (bif a0.2.2 then
    some true
   else some !r0.1.2.2 : Option (Bool)) fun x1 =>
  bif x1 then
   some ((ByteArray.mk #[]), (a0.1, a0.2.1, true))
  else some (r0.1.1, (a0.1, r0.1.2.1, a0.2.2)) := by kernel_rfl
def c_ireader_edges : TC :=
 (.seq (.rg [o1 2 (.lit [.sl [.i .i64, .i .i64]] [.slice none 0 0])])
 (.seq (.rg [o1 3 (.lit [.sl [.i .i64, .i .i64]] [.slice none 0 0])])
 (.seq (.rg [o1 7 (.p0),
   ⟨false, [], [], .call 2 268 [.t 0] (.mp 0), [8, 0], (some 8), none⟩,
   o1 4 (.copy 8)])
 (.seq (.join [⟨0, [.s, .i .i64, .b], false⟩, ⟨3, [.sl [.i .i64, .i .i64]], false⟩] 1073741433 none (.block 0 (.loop [⟨0, [.s, .i .i64, .b], false⟩, ⟨3, [.sl [.i .i64, .i .i64]], false⟩, ⟨4, [.i .i64], false⟩] 1073741433
  (.seq (.seq (.join [⟨17, [.b], false⟩] 261632 none (.rg [o1 9 (.copy 4),
    o1 10 (.data (.bin .gtr) [.t 9, .c (.int .i64 (0))]),
    o1 11 (.copy 10),
    o2 12 (.p0) 2 true,
    o2 13 (.same 12) 2 true,
    o2 14 (.idx (.t 13)) 2 true,
    o2 15 (.load 0 [] 2 (.t 14) 1 false) 2 true,
    o2 16 (.data .not [.t 15]) 2 true,
    ⟨false, [], [], .pick 11 (.t 16) (.c (.bool false)), [17], (some 17), none⟩]))
  (.cond (.t 17)
   .skip
   (.exit 0)))
  (.seq (.block 1 (.seq (.rg [o1 20 (.p0),
    ⟨false, [], [], .call 2 267 [.t 0] (.mp 0), [21, 0], (some 21), none⟩,
    o1 5 (.copy 21)])
  (.seq (.rg [o1 22 (.p0),
    ⟨false, [], [], .call 2 267 [.t 0] (.mp 0), [23, 0], (some 23), none⟩,
    o1 6 (.copy 23)])
  (.rg [⟨false, [], [], .det 2 (.copy 3), [24, 3], (some 24), none⟩,
    o1 25 (.copy 5),
    o1 26 (.copy 6),
    o1 27 (.build [.i .i64, .i .i64] [(0, .t 25), (1, .t 26)]),
    o1 28 (.sli [.i .i64, .i .i64] [.t 27]),
    ⟨false, [], [], .det 2 (.app (some 24) 28), [29, 24], (some 29), none⟩,
    ⟨false, [], [], .det 2 (.copy 29), [3, 29], (some 3), none⟩]))))
  (.rg [o1 18 (.copy 4),
    o1 19 (.data (.bin .sub) [.t 18, .c (.int .i64 (1))]),
    o1 4 (.copy 19)]))))))
 (.seq (.rg [⟨false, [], [], .det 2 (.copy 3), [30, 3], (some 30), none⟩,
   ⟨false, [], [], .det 2 (.copy 30), [2, 30], (some 2), none⟩])
 .ret)))))
def s_ireader_edges : Sig := ⟨[.mp [.d, .d, .d]], (.one false [.sl (.own none) [.d, .d]])⟩
noncomputable def E_ireader_edges : TEnv := envOf [(268, p_ireader_num), (267, p_ireader_one)]
noncomputable def f_ireader_edges (n : Nat) : (ByteArray × Int × Bool) → Option ((List (Int × Int)) × ByteArray × Int × Bool) := runFn n E_ireader_edges c_ireader_edges [[.s, .i .i64, .b]] [.sl [.i .i64, .i .i64]] [.s, .i .i64, .b] [2] (.mp 0)
noncomputable def g_ireader_edges := f_ireader_edges BIG
noncomputable def p_ireader_edges : TSp := ⟨s_ireader_edges, [[.s, .i .i64, .b]], [.sl [.i .i64, .i .i64]], [.s, .i .i64, .b], Ou.j (.mp 0), g_ireader_edges⟩
theorem k_ireader_edges : chkW PG E_ireader_edges 323 s_ireader_edges (c_ireader_edges.ht 31) (.mp 0) = some (c_ireader_edges.wc E_ireader_edges, [2]) := by kernel_rfl
theorem ok_ireader_edges : p_ireader_edges.Ok PG 323 := mkOk (env_cons ok_ireader_num (env_cons ok_ireader_one (env_nil PG))) k_ireader_edges (by kernel_rfl)
theorem e_ireader_edges (n : Nat) (a0 : ByteArray × Int × Bool) : f_ireader_edges n a0 =
  Option.bind (g_ireader_num a0) fun r0 =>
  Option.bind (loopT n (X := (ByteArray × Int × Bool) × (List (Int × Int)) × Int) (B := (ByteArray × Int × Bool) × (List (Int × Int))) (fun self2 x1 =>
    Option.bind (bif decide ((0 : Int) < x1.2.2) then
      some !x1.1.2.2
     else some false : Option (Bool)) fun x3 =>
    bif x3 then
     Option.bind (g_ireader_one x1.1) fun r4 =>
     Option.bind (g_ireader_one r4.2) fun r5 =>
     bif decide (x1.2.1.length + ([(r4.1, r5.1)]).length ≤ 4294967296) then
      self2 (r5.2, x1.2.1 ++ ([(r4.1, r5.1)]), IntKind.wrap .i64 (x1.2.2 - (1 : Int)))
     else none
    else some (x1.1, x1.2.1)) (r0.2, [], r0.1) : Option ((ByteArray × Int × Bool) × (List (Int × Int)))) fun x6 =>
  some (x6.2, x6.1) := by kernel_rfl
def c_ireader_ends : TC :=
 (.seq (.rg [o1 2 (.lit [.b] [.bool false])])
 (.seq (.join [⟨2, [.b], false⟩] 1048572 none (.rg [o1 3 (.p0),
   o1 4 (.same 3),
   o1 5 (.idx (.t 4)),
   o1 6 (.load 0 [] 2 (.t 5) 1 false),
   o1 7 (.data .not [.t 6]),
   o1 8 (.copy 7),
   o2 9 (.p0) 5 true,
   o2 10 (.same 9) 5 true,
   o2 11 (.idx (.t 10)) 5 true,
   o2 12 (.load 0 [] 1 (.t 11) 1 false) 5 true,
   o2 13 (.p0) 5 true,
   o2 14 (.same 13) 5 true,
   o2 15 (.idx (.t 14)) 5 true,
   o2 16 (.load 0 [] 0 (.t 15) 1 false) 5 true,
   o2 17 (.data .slen [.t 16]) 5 true,
   o2 18 (.data (.bin .eql) [.t 12, .t 17]) 5 true,
   ⟨false, [], [], .pick 8 (.t 18) (.c (.bool false)), [19], (some 19), none⟩,
   o1 2 (.copy 19)]))
 .ret))
def s_ireader_ends : Sig := ⟨[.mp [.d, .d, .d]], (.one false [.d])⟩
noncomputable def E_ireader_ends : TEnv := envOf []
noncomputable def f_ireader_ends (n : Nat) : (ByteArray × Int × Bool) → Option ((Bool) × ByteArray × Int × Bool) := runFn n E_ireader_ends c_ireader_ends [[.s, .i .i64, .b]] [.b] [.s, .i .i64, .b] [2] (.mp 0)
noncomputable def g_ireader_ends := f_ireader_ends BIG
noncomputable def p_ireader_ends : TSp := ⟨s_ireader_ends, [[.s, .i .i64, .b]], [.b], [.s, .i .i64, .b], Ou.j (.mp 0), g_ireader_ends⟩
theorem k_ireader_ends : chkW PG E_ireader_ends 273 s_ireader_ends (c_ireader_ends.ht 20) (.mp 0) = some (c_ireader_ends.wc E_ireader_ends, [2]) := by kernel_rfl
theorem ok_ireader_ends : p_ireader_ends.Ok PG 273 := mkOk (env_nil PG) k_ireader_ends (by kernel_rfl)
theorem e_ireader_ends (n : Nat) (a0 : ByteArray × Int × Bool) : f_ireader_ends n a0 =
  Option.bind (bif !a0.2.2 then
    some (decide (a0.2.1 = (a0.1.size : Int)))
   else some false : Option (Bool)) fun x0 =>
  some (x0, a0) := by kernel_rfl
def c_iEdgeOk : TC :=
 (.seq (.rg [o1 3 (.a (.t 1)),
   o1 4 (.lit [.b] [.bool false])])
 (.seq (.join [⟨4, [.b], false⟩] 268435440 none (.rg [o1 5 (.copy 0),
   o3 6 101 [.t 5, .c [.i .i64] [.int .i64 (1)], .c [.i .i64] [.int .i64 (12)]],
   o1 7 (.copy 6),
   o2 8 (.idx .nil) 2 true,
   o2 9 (.load 3 [] 0 (.t 8) 1 false) 2 true,
   o2 10 (.copy 0) 2 true,
   o2 11 (.data (.bin .sub) [.t 10, .c (.int .i64 (1))]) 2 true,
   ⟨false, [], [], .call 1 101 [.t 9, .c [.i .i64] [.int .i64 (0)], .t 11] .no, [12], (some 12), some (2, true)⟩,
   ⟨false, [], [], .pick 7 (.t 12) (.c (.bool false)), [13], (some 13), none⟩,
   o1 14 (.copy 13),
   o2 15 (.idx .nil) 9 true,
   o2 16 (.load 3 [] 1 (.t 15) 1 false) 9 true,
   o2 17 (.copy 0) 9 true,
   o2 18 (.data (.bin .sub) [.t 17, .c (.int .i64 (1))]) 9 true,
   ⟨false, [], [], .call 1 101 [.t 16, .c [.i .i64] [.int .i64 (0)], .t 18] .no, [19], (some 19), some (9, true)⟩,
   ⟨false, [], [], .pick 14 (.t 19) (.c (.bool false)), [20], (some 20), none⟩,
   o1 21 (.copy 20),
   o2 22 (.idx .nil) 16 true,
   o2 23 (.load 3 [] 0 (.t 22) 1 false) 16 true,
   o2 24 (.idx .nil) 16 true,
   o2 25 (.load 3 [] 1 (.t 24) 1 false) 16 true,
   o2 26 (.data (.bin .lss) [.t 23, .t 25]) 16 true,
   ⟨false, [], [], .pick 21 (.t 26) (.c (.bool false)), [27], (some 27), none⟩,
   o1 4 (.copy 27)]))
 .ret))
def s_iEdgeOk : Sig := ⟨[.rd false [.d], .rd true [.d, .d]], (.one false [.d])⟩
noncomputable def E_iEdgeOk : TEnv := envOf [(101, p_iin)]
noncomputable def f_iEdgeOk (n : Nat) : Int × (Int × Int) → Option ((Bool) × Unit) := runFn n E_iEdgeOk c_iEdgeOk [[.i .i64], [.i .i64, .i .i64]] [.b] [] [4] .no
noncomputable def g_iEdgeOk := f_iEdgeOk BIG
noncomputable def p_iEdgeOk : TSp := ⟨s_iEdgeOk, [[.i .i64], [.i .i64, .i .i64]], [.b], [], Ou.j .no, g_iEdgeOk⟩
theorem k_iEdgeOk : chkW PG E_iEdgeOk 113 s_iEdgeOk (c_iEdgeOk.ht 28) .no = some (c_iEdgeOk.wc E_iEdgeOk, [4]) := by kernel_rfl
theorem ok_iEdgeOk : p_iEdgeOk.Ok PG 113 := mkOk (env_cons ok_iin (env_nil PG)) k_iEdgeOk (by kernel_rfl)
theorem e_iEdgeOk (n : Nat) (a0 : Int) (a1 : Int × Int) : f_iEdgeOk n (a0, a1) =
  Option.bind (Option.bind (g_iin (a0, (1 : Int), (12 : Int))) fun r0 =>
   bif r0.1 then
    Option.bind (g_iin (a1.1, (0 : Int), IntKind.wrap .i64 (a0 - (1 : Int)))) fun r1 =>
    bif r1.1 then
     Option.bind (g_iin (a1.2, (0 : Int), IntKind.wrap .i64 (a0 - (1 : Int)))) fun r2 =>
     bif r2.1 then
      some (decide (a1.1 < a1.2))
     else some false
    else some false
   else some false : Option (Bool)) fun x3 =>
  some (x3, ()) := by kernel_rfl
def c_iahead : TC :=
 (.seq (.rg [o1 2 (.a (.t 0)),
   o1 3 (.a (.t 1)),
   o1 4 (.lit [.b] [.bool false])])
 (.seq (.join [⟨4, [.b], false⟩] 16777200 none (.rg [o1 5 (.idx .nil),
   o1 6 (.load 2 [] 0 (.t 5) 1 false),
   o1 7 (.idx .nil),
   o1 8 (.load 3 [] 0 (.t 7) 1 false),
   o1 9 (.data (.bin .lss) [.t 6, .t 8]),
   o1 10 (.copy 9),
   o2 11 (.idx .nil) 5 false,
   o2 12 (.load 2 [] 0 (.t 11) 1 false) 5 false,
   o2 13 (.idx .nil) 5 false,
   o2 14 (.load 3 [] 0 (.t 13) 1 false) 5 false,
   o2 15 (.data (.bin .eql) [.t 12, .t 14]) 5 false,
   o2 16 (.copy 15) 5 false,
   o2 17 (.idx .nil) 11 true,
   o2 18 (.load 2 [] 1 (.t 17) 1 false) 11 true,
   o2 19 (.idx .nil) 11 true,
   o2 20 (.load 3 [] 1 (.t 19) 1 false) 11 true,
   o2 21 (.data (.bin .lss) [.t 18, .t 20]) 11 true,
   ⟨false, [], [], .pick 16 (.t 21) (.c (.bool false)), [22], (some 22), some (5, false)⟩,
   ⟨false, [], [], .pick 10 (.c (.bool true)) (.t 22), [23], (some 23), none⟩,
   o1 4 (.copy 23)]))
 .ret))
def s_iahead : Sig := ⟨[.rd true [.d, .d], .rd true [.d, .d]], (.one false [.d])⟩
noncomputable def E_iahead : TEnv := envOf []
noncomputable def f_iahead (n : Nat) : (Int × Int) × (Int × Int) → Option ((Bool) × Unit) := runFn n E_iahead c_iahead [[.i .i64, .i .i64], [.i .i64, .i .i64]] [.b] [] [4] .no
noncomputable def g_iahead := f_iahead BIG
noncomputable def p_iahead : TSp := ⟨s_iahead, [[.i .i64, .i .i64], [.i .i64, .i .i64]], [.b], [], Ou.j .no, g_iahead⟩
theorem k_iahead : chkW PG E_iahead 234 s_iahead (c_iahead.ht 24) .no = some (c_iahead.wc E_iahead, [4]) := by kernel_rfl
theorem ok_iahead : p_iahead.Ok PG 234 := mkOk (env_nil PG) k_iahead (by kernel_rfl)
theorem e_iahead (n : Nat) (a0 : Int × Int) (a1 : Int × Int) : f_iahead n (a0, a1) =
  Option.bind (bif decide (a0.1 < a1.1) then
    some true
   else bif decide (a0.1 = a1.1) then
    some (decide (a0.2 < a1.2))
   else some false : Option (Bool)) fun x0 =>
  some (x0, ()) := by kernel_rfl
def c_iedgesOk : TC :=
 (.seq (.rg [o1 4 (.lit [.b] [.bool false])])
 (.seq (.join [] 8589934576 (some [⟨4, [.b], false⟩]) (.seq (.rg [o1 7 (.copy 1),
   o1 8 (.len 7),
   o1 9 (.lit [.i .i64] [.int .i64 (0)])])
 (.block 0 (.loop [⟨9, [.i .i64], false⟩] 8589934192
  (.seq (.rg [o1 10 (.data (.bin .lss) [.t 9, .t 8])])
  (.seq (.cond (.t 10)
   .skip
   (.exit 0))
  (.seq (.join [] 4294965360 (some [⟨4, [.b], false⟩]) (.block 1 (.seq (.rg [o1 11 (.copy 9),
    o1 12 (.index 7 (.t 9)),
    o1 13 (.load 7 [(0, 2)] 0 (.t 12) 2 false),
    ⟨false, [], [], .det 2 (.a (.c [.i .i64, .i .i64] [.int .i64 (0), .int .i64 (0)])), [6, 1000000001], (some 6), none⟩,
    o1 5 (.copy 11),
    o4 1 [6] (.store 6 [] 0 .nil (.t 13))])
  (.seq (.join [⟨31, [.b], false⟩] 4294950912 none (.rg [o1 14 (.copy 0),
    o1 15 (.load 6 [] 0 .nil 2 false),
    o3 16 113 [.t 14, .t 15],
    o1 17 (.data .not [.t 16]),
    o1 18 (.copy 17),
    o2 19 (.copy 5) 4 false,
    o2 20 (.data (.bin .gtr) [.t 19, .c (.int .i64 (0))]) 4 false,
    o2 21 (.copy 20) 4 false,
    o2 22 (.copy 1) 7 true,
    o2 23 (.copy 5) 7 true,
    o2 24 (.data (.bin .sub) [.t 23, .c (.int .i64 (1))]) 7 true,
    o2 25 (.index 22 (.t 24)) 7 true,
    o2 26 (.load 22 [(0, 2)] 0 (.t 25) 2 false) 7 true,
    o2 27 (.load 6 [] 0 .nil 2 false) 7 true,
    ⟨false, [], [], .call 1 234 [.t 26, .t 27] .no, [28], (some 28), some (7, true)⟩,
    o2 29 (.data .not [.t 28]) 7 true,
    ⟨false, [], [], .pick 21 (.t 29) (.c (.bool false)), [30], (some 30), some (4, false)⟩,
    ⟨false, [], [], .pick 18 (.c (.bool true)) (.t 30), [31], (some 31), none⟩]))
  (.cond (.t 31)
   (.seq (.rg [o1 4 (.lit [.b] [.bool false])])
   .ret)
   .skip)))))
  (.rg [o1 32 (.data (.bin .add) [.t 9, .c (.int .i64 (1))]),
    o1 9 (.copy 32)]))))))))
 (.seq (.rg [o1 33 (.copy 1),
   o1 34 (.len 33),
   o1 35 (.data (.bin .leq) [.t 34, .c (.int .i64 (66))]),
   o1 4 (.copy 35)])
 .ret)))
def s_iedgesOk : Sig := ⟨[.rd false [.d], .rd false [.sl (.own none) [.d, .d]]], (.one false [.d])⟩
noncomputable def E_iedgesOk : TEnv := envOf [(113, p_iEdgeOk), (234, p_iahead)]
noncomputable def f_iedgesOk (n : Nat) : Int × (List (Int × Int)) → Option ((Bool) × Unit) := runFn n E_iedgesOk c_iedgesOk [[.i .i64], [.sl [.i .i64, .i .i64]]] [.b] [] [4] .no
noncomputable def g_iedgesOk := f_iedgesOk BIG
noncomputable def p_iedgesOk : TSp := ⟨s_iedgesOk, [[.i .i64], [.sl [.i .i64, .i .i64]]], [.b], [], Ou.j .no, g_iedgesOk⟩
theorem k_iedgesOk : chkW PG E_iedgesOk 232 s_iedgesOk (c_iedgesOk.ht 36) .no = some (c_iedgesOk.wc E_iedgesOk, [4]) := by kernel_rfl
theorem ok_iedgesOk : p_iedgesOk.Ok PG 232 := mkOk (env_cons ok_iEdgeOk (env_cons ok_iahead (env_nil PG))) k_iedgesOk (by kernel_rfl)
theorem e_iedgesOk (n : Nat) (a0 : Int) (a1 : List (Int × Int)) : f_iedgesOk n (a0, a1) =
  Option.bind (loopT n (X := Int) (B := (Unit) ⊕ (Bool)) (fun self1 x0 =>
    bif decide (x0 < (a1.length : Int)) then
     Option.bind (bnd a1.length x0 fun n2 =>
      Option.bind a1[n2]? fun y3 =>
      Option.bind (Option.bind (g_iEdgeOk (a0, y3)) fun r4 =>
       bif !r4.1 then
        some true
       else bif decide ((0 : Int) < x0) then
        bnd a1.length (IntKind.wrap .i64 (x0 - (1 : Int))) fun n5 =>
        Option.bind a1[n5]? fun y6 =>
        Option.bind (g_iahead (y6, y3)) fun r7 =>
        some !r7.1
       else some false : Option (Bool)) fun x8 =>
      bif x8 then
       some (Sum.inr false)
      else some (Sum.inl ()) : Option ((Unit) ⊕ (Bool))) fun y => match y with
     | .inl x9 =>
      self1 (IntKind.wrap .i64 (x0 + (1 : Int)))
     | .inr x9 =>
      some (Sum.inr x9)
    else some (Sum.inl ())) (0 : Int) : Option ((Unit) ⊕ (Bool))) fun y => match y with
  | .inl x10 =>
   some (decide ((a1.length : Int) ≤ (66 : Int)), ())
  | .inr x10 =>
   some (x10, ()) := by kernel_rfl
def c_ilabelsOk : TC :=
 (.seq (.rg [o1 4 (.lit [.b] [.bool false])])
 (.seq (.seq (.rg [o1 7 (.copy 1),
   o1 8 (.len 7),
   o1 9 (.copy 0),
   o1 10 (.data (.bin .neq) [.t 8, .t 9])])
 (.cond (.t 10)
  (.seq (.rg [o1 4 (.lit [.b] [.bool false])])
  .ret)
  .skip))
 (.seq (.join [] 2147481712 (some [⟨4, [.b], false⟩]) (.seq (.rg [o1 11 (.copy 1),
   o1 12 (.len 11),
   o1 13 (.lit [.i .i64] [.int .i64 (0)])])
 (.block 0 (.loop [⟨13, [.i .i64], false⟩] 2147475568
  (.seq (.rg [o1 14 (.data (.bin .lss) [.t 13, .t 12])])
  (.seq (.cond (.t 14)
   .skip
   (.exit 0))
  (.seq (.join [] 1073709168 (some [⟨4, [.b], false⟩]) (.block 1 (.seq (.rg [o1 15 (.copy 13),
    o1 16 (.index 11 (.t 13)),
    o1 17 (.load 11 [(0, 1)] 0 (.t 16) 1 false),
    o1 5 (.copy 15),
    o1 6 (.copy 17)])
  (.seq (.join [⟨29, [.b], false⟩] 1073479680 none (.rg [o1 18 (.copy 6),
    o1 19 (.copy 5),
    o3 20 101 [.t 18, .c [.i .i64] [.int .i64 (0)], .t 19],
    o1 21 (.data .not [.t 20]),
    o1 22 (.copy 21),
    o2 23 (.copy 1) 4 false,
    o2 24 (.copy 6) 4 false,
    o2 25 (.index 23 (.t 24)) 4 false,
    o2 26 (.load 23 [(0, 1)] 0 (.t 25) 1 false) 4 false,
    o2 27 (.copy 6) 4 false,
    o2 28 (.data (.bin .neq) [.t 26, .t 27]) 4 false,
    ⟨false, [], [], .pick 22 (.c (.bool true)) (.t 28), [29], (some 29), none⟩]))
  (.cond (.t 29)
   (.seq (.rg [o1 4 (.lit [.b] [.bool false])])
   .ret)
   .skip)))))
  (.rg [o1 30 (.data (.bin .add) [.t 13, .c (.int .i64 (1))]),
    o1 13 (.copy 30)]))))))))
 (.seq (.rg [o1 4 (.lit [.b] [.bool true])])
 .ret))))
def s_ilabelsOk : Sig := ⟨[.rd false [.d], .rd false [.sl (.own none) [.d]]], (.one false [.d])⟩
noncomputable def E_ilabelsOk : TEnv := envOf [(101, p_iin)]
noncomputable def f_ilabelsOk (n : Nat) : Int × List (Int) → Option ((Bool) × Unit) := runFn n E_ilabelsOk c_ilabelsOk [[.i .i64], [.sl [.i .i64]]] [.b] [] [4] .no
noncomputable def g_ilabelsOk := f_ilabelsOk BIG
noncomputable def p_ilabelsOk : TSp := ⟨s_ilabelsOk, [[.i .i64], [.sl [.i .i64]]], [.b], [], Ou.j .no, g_ilabelsOk⟩
theorem k_ilabelsOk : chkW PG E_ilabelsOk 123 s_ilabelsOk (c_ilabelsOk.ht 31) .no = some (c_ilabelsOk.wc E_ilabelsOk, [4]) := by kernel_rfl
theorem ok_ilabelsOk : p_ilabelsOk.Ok PG 123 := mkOk (env_cons ok_iin (env_nil PG)) k_ilabelsOk (by kernel_rfl)
theorem e_ilabelsOk (n : Nat) (a0 : Int) (a1 : List (Int)) : f_ilabelsOk n (a0, a1) =
  bif !decide ((a1.length : Int) = a0) then
   some (false, ())
  else Option.bind (loopT n (X := Int) (B := (Unit) ⊕ (Bool)) (fun self1 x0 =>
    bif decide (x0 < (a1.length : Int)) then
     Option.bind (bnd a1.length x0 fun n2 =>
      Option.bind a1[n2]? fun y3 =>
      Option.bind (Option.bind (g_iin (y3, (0 : Int), x0)) fun r4 =>
       bif !r4.1 then
        some true
       else bnd a1.length y3 fun n5 =>
       Option.bind a1[n5]? fun y6 =>
       some (!decide (y6 = y3)) : Option (Bool)) fun x7 =>
      bif x7 then
       some (Sum.inr false)
      else some (Sum.inl ()) : Option ((Unit) ⊕ (Bool))) fun y => match y with
     | .inl x8 =>
      self1 (IntKind.wrap .i64 (x0 + (1 : Int)))
     | .inr x8 =>
      some (Sum.inr x8)
    else some (Sum.inl ())) (0 : Int) : Option ((Unit) ⊕ (Bool))) fun y => match y with
  | .inl x9 =>
   some (true, ())
  | .inr x9 =>
   some (x9, ()) := by kernel_rfl
def c_iAnswerOk : TC :=
 (.seq (.rg [o1 3 (.a (.t 1)),
   o1 4 (.lit [.b] [.bool false])])
 (.seq (.join [⟨4, [.b], false⟩] 16777200 none (.rg [o1 5 (.copy 0),
   o3 6 101 [.t 5, .c [.i .i64] [.int .i64 (1)], .c [.i .i64] [.int .i64 (12)]],
   o1 7 (.copy 6),
   o2 8 (.idx .nil) 2 true,
   o2 9 (.load 3 [] 0 (.t 8) 1 false) 2 true,
   ⟨false, [], [], .call 1 101 [.t 9, .c [.i .i64] [.int .i64 (1)], .c [.i .i64] [.int .i64 (100000)]] .no, [10], (some 10), some (2, true)⟩,
   ⟨false, [], [], .pick 7 (.t 10) (.c (.bool false)), [11], (some 11), none⟩,
   o1 12 (.copy 11),
   o2 13 (.copy 0) 7 true,
   o2 14 (.idx .nil) 7 true,
   o2 15 (.load 3 [] 2 (.t 14) 1 false) 7 true,
   ⟨false, [], [], .call 1 232 [.t 13, .t 15] .no, [16], (some 16), some (7, true)⟩,
   ⟨false, [], [], .pick 12 (.t 16) (.c (.bool false)), [17], (some 17), none⟩,
   o1 18 (.copy 17),
   o2 19 (.copy 0) 13 true,
   o2 20 (.idx .nil) 13 true,
   o2 21 (.load 3 [] 3 (.t 20) 1 false) 13 true,
   ⟨false, [], [], .call 1 123 [.t 19, .t 21] .no, [22], (some 22), some (13, true)⟩,
   ⟨false, [], [], .pick 18 (.t 22) (.c (.bool false)), [23], (some 23), none⟩,
   o1 4 (.copy 23)]))
 .ret))
def s_iAnswerOk : Sig := ⟨[.rd false [.d], .rd true [.d, .d, .sl (.own none) [.d, .d], .sl (.own none) [.d]]], (.one false [.d])⟩
noncomputable def E_iAnswerOk : TEnv := envOf [(101, p_iin), (232, p_iedgesOk), (123, p_ilabelsOk)]
noncomputable def f_iAnswerOk (n : Nat) : Int × (Int × Bool × List (Int × Int) × List (Int)) → Option ((Bool) × Unit) := runFn n E_iAnswerOk c_iAnswerOk [[.i .i64], [.i .i64, .b, .sl [.i .i64, .i .i64], .sl [.i .i64]]] [.b] [] [4] .no
noncomputable def g_iAnswerOk := f_iAnswerOk BIG
noncomputable def p_iAnswerOk : TSp := ⟨s_iAnswerOk, [[.i .i64], [.i .i64, .b, .sl [.i .i64, .i .i64], .sl [.i .i64]]], [.b], [], Ou.j .no, g_iAnswerOk⟩
theorem k_iAnswerOk : chkW PG E_iAnswerOk 136 s_iAnswerOk (c_iAnswerOk.ht 24) .no = some (c_iAnswerOk.wc E_iAnswerOk, [4]) := by kernel_rfl
theorem ok_iAnswerOk : p_iAnswerOk.Ok PG 136 := mkOk (env_cons ok_iin (env_cons ok_iedgesOk (env_cons ok_ilabelsOk (env_nil PG)))) k_iAnswerOk (by kernel_rfl)
theorem e_iAnswerOk (n : Nat) (a0 : Int) (a1 : Int × Bool × List (Int × Int) × List (Int)) : f_iAnswerOk n (a0, a1) =
  Option.bind (Option.bind (g_iin (a0, (1 : Int), (12 : Int))) fun r0 =>
   bif r0.1 then
    Option.bind (g_iin (a1.1, (1 : Int), (100000 : Int))) fun r1 =>
    bif r1.1 then
     Option.bind (g_iedgesOk (a0, a1.2.2.1)) fun r2 =>
     bif r2.1 then
      Option.bind (g_ilabelsOk (a0, a1.2.2.2)) fun r3 =>
      some r3.1
     else some false
    else some false
   else some false : Option (Bool)) fun x4 =>
  some (x4, ()) := by kernel_rfl
def c_iReadAnswer : TC :=
 (.seq (.rg [⟨false, [], [], .det 2 (.a (.c [.i .i64, .b, .sl [.i .i64, .i .i64], .sl [.i .i64]] [.int .i64 (0), .bool false, .slice none 0 0, .slice none 0 0])), [4, 1000000001], (some 4), none⟩,
   o1 5 (.lit [.b] [.bool false])])
 (.seq (.seq (.rg [o1 10 (.copy 0),
   o3 11 101 [.t 10, .c [.i .i64] [.int .i64 (1)], .c [.i .i64] [.int .i64 (12)]],
   o1 12 (.data .not [.t 11])])
 (.cond (.t 12)
  (.seq (.rg [o1 13 (.build [.i .i64, .b, .sl [.i .i64, .i .i64], .sl [.i .i64]] []),
    o4 2 [4, 13] (.store 4 [] 0 .nil (.t 13)),
    o1 5 (.lit [.b] [.bool false])])
  .ret)
  .skip))
 (.seq (.rg [o1 14 (.copy 1),
   o1 15 (.build [.s, .i .i64, .b] [(0, .t 14)]),
   o1 16 (.a (.t 15)),
   o1 6 (.p0)])
 (.seq (.rg [⟨false, [], [], .det 2 (.a (.c [.i .i64, .b, .sl [.i .i64, .i .i64], .sl [.i .i64]] [.int .i64 (0), .bool false, .slice none 0 0, .slice none 0 0])), [7, 1000000001], (some 7), none⟩])
 (.seq (.rg [o1 17 (.same 6),
   ⟨false, [], [], .call 2 268 [.t 16] (.mp 0), [18, 16], (some 18), none⟩,
   o1 19 (.idx .nil),
   o4 1 [7] (.store 7 [] 0 (.t 19) (.t 18))])
 (.seq (.rg [o1 20 (.same 6),
   ⟨false, [], [], .call 2 267 [.t 16] (.mp 0), [21, 16], (some 21), none⟩,
   o1 8 (.copy 21)])
 (.seq (.rg [o1 22 (.copy 8),
   o1 23 (.data (.bin .eql) [.t 22, .c (.int .i64 (1))]),
   o1 24 (.idx .nil),
   o4 1 [7] (.store 7 [] 1 (.t 24) (.t 23))])
 (.seq (.rg [o1 25 (.same 6),
   ⟨false, [], [], .call 2 323 [.t 16] (.mp 0), [26, 16], (some 26), none⟩,
   o1 27 (.idx .nil),
   o4 2 [7, 26] (.store 7 [] 2 (.t 27) (.t 26))])
 (.seq (.join [⟨16, [.s, .i .i64, .b], false⟩, ⟨7, [.i .i64, .b, .sl [.i .i64, .i .i64], .sl [.i .i64]], false⟩] 1099243258496 none (.seq (.rg [o1 28 (.copy 0),
   o1 29 (.lit [.i .i64] [.int .i64 (0)])])
 (.block 0 (.loop [⟨16, [.s, .i .i64, .b], false⟩, ⟨7, [.i .i64, .b, .sl [.i .i64, .i .i64], .sl [.i .i64]], false⟩, ⟨29, [.i .i64], false⟩] 1098974823040
  (.seq (.rg [o1 30 (.data (.bin .lss) [.t 29, .t 28])])
  (.seq (.cond (.t 30)
   .skip
   (.exit 0))
  (.seq (.block 1 (.seq (.rg [o1 31 (.same 6),
    ⟨false, [], [], .call 2 267 [.t 16] (.mp 0), [32, 16], (some 32), none⟩,
    o1 9 (.copy 32)])
  (.rg [o1 33 (.idx .nil),
    o1 34 (.load 7 [] 3 (.t 33) 1 true),
    o1 35 (.copy 9),
    o1 36 (.sli [.i .i64] [.t 35]),
    ⟨false, [34], [], .det 2 (.app (some 34) 36), [37, 34, 34, 7], (some 37), none⟩,
    o1 38 (.idx .nil),
    o4 2 [7, 37, 34] (.store 7 [] 3 (.t 38) (.t 37))])))
  (.rg [o1 39 (.data (.bin .add) [.t 29, .c (.int .i64 (1))]),
    o1 29 (.copy 39)]))))))))
 (.seq (.seq (.join [⟨52, [.b], false⟩] 9006099743178752 none (.rg [o1 40 (.copy 8),
   o1 41 (.data (.bin .gtr) [.t 40, .c (.int .i64 (1))]),
   o1 42 (.copy 41),
   o2 43 (.same 6) 2 false,
   ⟨false, [], [], .call 2 273 [.t 16] (.mp 0), [44, 16], (some 44), some (2, false)⟩,
   o2 45 (.data .not [.t 44]) 2 false,
   ⟨false, [], [], .pick 42 (.c (.bool true)) (.t 45), [46], (some 46), none⟩,
   o1 47 (.copy 46),
   o2 48 (.copy 0) 7 false,
   o2 49 (.load 7 [] 0 .nil 4 true) 7 false,
   ⟨false, [], [], .call 1 136 [.t 48, .t 49] .no, [50], (some 50), some (7, false)⟩,
   o2 51 (.data .not [.t 50]) 7 false,
   ⟨false, [], [], .pick 47 (.c (.bool true)) (.t 51), [52], (some 52), none⟩]))
 (.cond (.t 52)
  (.seq (.rg [o1 53 (.build [.i .i64, .b, .sl [.i .i64, .i .i64], .sl [.i .i64]] []),
    o4 2 [4, 53] (.store 4 [] 0 .nil (.t 53)),
    o1 5 (.lit [.b] [.bool false])])
  .ret)
  .skip))
 (.seq (.rg [o1 54 (.load 7 [] 0 .nil 4 true),
   ⟨false, [54], [], .det 2 (.store 4 [] 0 .nil (.t 54)), [4, 54, 54, 7], none, none⟩,
   o1 5 (.lit [.b] [.bool true])])
 .ret)))))))))))
def s_iReadAnswer : Sig := ⟨[.rd false [.d], .rd false [.d]], (.tup [(true, 4), (false, 1)] [.d, .d, .sl (.own none) [.d, .d], .sl (.own none) [.d], .d])⟩
noncomputable def E_iReadAnswer : TEnv := envOf [(101, p_iin), (268, p_ireader_num), (267, p_ireader_one), (323, p_ireader_edges), (273, p_ireader_ends), (136, p_iAnswerOk)]
noncomputable def f_iReadAnswer (n : Nat) : Int × ByteArray → Option ((Int × Bool × List (Int × Int) × List (Int) × Bool) × Unit) := runFn n E_iReadAnswer c_iReadAnswer [[.i .i64], [.s]] [.i .i64, .b, .sl [.i .i64, .i .i64], .sl [.i .i64], .b] [] [4, 5] .no
noncomputable def g_iReadAnswer := f_iReadAnswer BIG
noncomputable def p_iReadAnswer : TSp := ⟨s_iReadAnswer, [[.i .i64], [.s]], [.i .i64, .b, .sl [.i .i64, .i .i64], .sl [.i .i64], .b], [], Ou.j .no, g_iReadAnswer⟩
theorem k_iReadAnswer : chkW PG E_iReadAnswer 269 s_iReadAnswer (c_iReadAnswer.ht 55) .no = some (c_iReadAnswer.wc E_iReadAnswer, [4, 5]) := by kernel_rfl
theorem ok_iReadAnswer : p_iReadAnswer.Ok PG 269 := mkOk (env_cons ok_iin (env_cons ok_ireader_num (env_cons ok_ireader_one (env_cons ok_ireader_edges (env_cons ok_ireader_ends (env_cons ok_iAnswerOk (env_nil PG))))))) k_iReadAnswer (by kernel_rfl)
theorem e_iReadAnswer (n : Nat) (a0 : Int) (a1 : ByteArray) : f_iReadAnswer n (a0, a1) =
  Option.bind (g_iin (a0, (1 : Int), (12 : Int))) fun r0 =>
  bif !r0.1 then
   some (((0 : Int), false, [], [], false), ())
  else Option.bind (g_ireader_num (a1, (0 : Int), false)) fun r1 =>
  Option.bind (g_ireader_one r1.2) fun r2 =>
  Option.bind (g_ireader_edges r2.2) fun r3 =>
  Option.bind (loopT n (X := (ByteArray × Int × Bool) × (Int × Bool × List (Int × Int) × List (Int)) × Int) (B := (ByteArray × Int × Bool) × (Int × Bool × List (Int × Int) × List (Int))) (fun self5 x4 =>
    bif decide (x4.2.2 < a0) then
     Option.bind (g_ireader_one x4.1) fun r6 =>
     bif decide (x4.2.1.2.2.2.length + [r6.1].length ≤ 4294967296) then
      self5 (r6.2, (x4.2.1.1, x4.2.1.2.1, x4.2.1.2.2.1, x4.2.1.2.2.2 ++ [r6.1]), IntKind.wrap .i64 (x4.2.2 + (1 : Int)))
     else none
    else some (x4.1, x4.2.1)) (r3.2, (r1.1, decide (r2.1 = (1 : Int)), r3.1, []), (0 : Int)) : Option ((ByteArray × Int × Bool) × (Int × Bool × List (Int × Int) × List (Int)))) fun x7 =>
  Option.bind (bif decide ((1 : Int) < r2.1) then
    some true
   else Option.bind (g_ireader_ends x7.1) fun r8 =>
   bif !r8.1 then
    some true
   else Option.bind (g_iAnswerOk (a0, x7.2)) fun r9 =>
   some !r9.1 : Option (Bool)) fun x10 =>
  bif x10 then
   some (((0 : Int), false, [], [], false), ())
  else some ((x7.2.1, x7.2.2.1, x7.2.2.2.1, x7.2.2.2.2, true), ()) := by kernel_rfl
def c_iOrderOk : TC :=
 (.seq (.rg [o1 3 (.a (.t 1)),
   o1 4 (.lit [.b] [.bool false])])
 (.seq (.seq (.join [⟨30, [.b], false⟩] 2147483616 none (.rg [o1 5 (.copy 0),
   o3 6 101 [.t 5, .c [.i .i64] [.int .i64 (1)], .c [.i .i64] [.int .i64 (12)]],
   o1 7 (.data .not [.t 6]),
   o1 8 (.copy 7),
   o2 9 (.idx .nil) 3 false,
   o2 10 (.load 3 [] 0 (.t 9) 1 false) 3 false,
   ⟨false, [], [], .call 1 101 [.t 10, .c [.i .i64] [.int .i64 (1)], .c [.i .i64] [.int .i64 (100000)]] .no, [11], (some 11), some (3, false)⟩,
   o2 12 (.data .not [.t 11]) 3 false,
   ⟨false, [], [], .pick 8 (.c (.bool true)) (.t 12), [13], (some 13), none⟩,
   o1 14 (.copy 13),
   o2 15 (.copy 0) 9 false,
   o2 16 (.idx .nil) 9 false,
   o2 17 (.load 3 [] 2 (.t 16) 1 false) 9 false,
   ⟨false, [], [], .call 1 232 [.t 15, .t 17] .no, [18], (some 18), some (9, false)⟩,
   o2 19 (.data .not [.t 18]) 9 false,
   ⟨false, [], [], .pick 14 (.c (.bool true)) (.t 19), [20], (some 20), none⟩,
   o1 21 (.copy 20),
   o2 22 (.idx .nil) 16 false,
   o2 23 (.load 3 [] 3 (.t 22) 1 false) 16 false,
   o2 24 (.data (.bin .neq) [.t 23, .c (.int .i64 (0))]) 16 false,
   o2 25 (.copy 24) 16 false,
   o2 26 (.idx .nil) 20 true,
   o2 27 (.load 3 [] 1 (.t 26) 1 false) 20 true,
   o2 28 (.data (.bin .neq) [.t 27, .c (.int .i64 (3))]) 20 true,
   ⟨false, [], [], .pick 25 (.t 28) (.c (.bool false)), [29], (some 29), some (16, false)⟩,
   ⟨false, [], [], .pick 21 (.c (.bool true)) (.t 29), [30], (some 30), none⟩]))
 (.cond (.t 30)
  (.seq (.rg [o1 4 (.lit [.b] [.bool false])])
  .ret)
  .skip))
 (.seq (.join [] 576460750155939856 (some [⟨4, [.b], false⟩]) (.seq (.rg [o1 31 (.idx .nil),
   o1 32 (.load 3 [] 1 (.t 31) 1 false)])
 (.block 0 (.seq (.join [⟨33, [.b], false⟩] 60129542144 none (.seq (.rg [o1 34 (.data (.bin .eql) [.t 32, .c (.int .i64 (1))]),
   o1 33 (.copy 34)])
 (.cond (.t 33)
  .skip
  (.rg [o1 35 (.data (.bin .eql) [.t 32, .c (.int .i64 (2))]),
    o1 33 (.copy 35)]))))
 (.cond (.t 33)
  (.seq (.rg [o1 36 (.idx .nil),
    o1 37 (.load 3 [] 2 (.t 36) 1 false),
    o1 38 (.len 37),
    o1 39 (.data (.bin .eql) [.t 38, .c (.int .i64 (1))]),
    o1 4 (.copy 39)])
  .ret)
  (.seq (.rg [o1 41 (.data (.bin .eql) [.t 32, .c (.int .i64 (3))]),
    o1 40 (.copy 41)])
  (.cond (.t 40)
   (.seq (.join [⟨4, [.b], false⟩] 9002801208229904 none (.rg [o1 42 (.idx .nil),
     o1 43 (.load 3 [] 2 (.t 42) 1 false),
     o1 44 (.len 43),
     o1 45 (.data (.bin .eql) [.t 44, .c (.int .i64 (0))]),
     o1 46 (.copy 45),
     o2 47 (.idx .nil) 4 true,
     o2 48 (.load 3 [] 3 (.t 47) 1 false) 4 true,
     o2 49 (.copy 0) 4 true,
     o2 50 (.data (.bin .sub) [.t 49, .c (.int .i64 (1))]) 4 true,
     ⟨false, [], [], .call 1 101 [.t 48, .c [.i .i64] [.int .i64 (0)], .t 50] .no, [51], (some 51), some (4, true)⟩,
     ⟨false, [], [], .pick 46 (.t 51) (.c (.bool false)), [52], (some 52), none⟩,
     o1 4 (.copy 52)]))
   .ret)
   (.seq (.rg [o1 54 (.data (.bin .eql) [.t 32, .c (.int .i64 (4))]),
     o1 53 (.copy 54)])
   (.cond (.t 53)
    (.seq (.rg [o1 55 (.idx .nil),
      o1 56 (.load 3 [] 2 (.t 55) 1 false),
      o1 57 (.len 56),
      o1 58 (.data (.bin .gtr) [.t 57, .c (.int .i64 (0))]),
      o1 4 (.copy 58)])
    .ret)
    .skip)))))))))
 (.seq (.rg [o1 4 (.lit [.b] [.bool false])])
 .ret))))
def s_iOrderOk : Sig := ⟨[.rd false [.d], .rd true [.d, .d, .sl (.own none) [.d, .d], .d]], (.one false [.d])⟩
noncomputable def E_iOrderOk : TEnv := envOf [(101, p_iin), (232, p_iedgesOk)]
noncomputable def f_iOrderOk (n : Nat) : Int × (Int × Int × List (Int × Int) × Int) → Option ((Bool) × Unit) := runFn n E_iOrderOk c_iOrderOk [[.i .i64], [.i .i64, .i .i64, .sl [.i .i64, .i .i64], .i .i64]] [.b] [] [4] .no
noncomputable def g_iOrderOk := f_iOrderOk BIG
noncomputable def p_iOrderOk : TSp := ⟨s_iOrderOk, [[.i .i64], [.i .i64, .i .i64, .sl [.i .i64, .i .i64], .i .i64]], [.b], [], Ou.j .no, g_iOrderOk⟩
theorem k_iOrderOk : chkW PG E_iOrderOk 241 s_iOrderOk (c_iOrderOk.ht 59) .no = some (c_iOrderOk.wc E_iOrderOk, [4]) := by kernel_rfl
theorem ok_iOrderOk : p_iOrderOk.Ok PG 241 := mkOk (env_cons ok_iin (env_cons ok_iedgesOk (env_nil PG))) k_iOrderOk (by kernel_rfl)
theorem e_iOrderOk (n : Nat) (a0 : Int) (a1 : Int × Int × List (Int × Int) × Int) : f_iOrderOk n (a0, a1) =
  Option.bind (Option.bind (g_iin (a0, (1 : Int), (12 : Int))) fun r0 =>
   bif !r0.1 then
    some true
   else Option.bind (g_iin (a1.1, (1 : Int), (100000 : Int))) fun r1 =>
   bif !r1.1 then
    some true
   else Option.bind (g_iedgesOk (a0, a1.2.2.1)) fun r2 =>
   bif !r2.1 then
    some true
   else bif !decide (a1.2.2.2 = (0 : Int)) then
    some (!decide (a1.2.1 = (3 : Int)))
   else some false : Option (Bool)) fun x3 =>
  bif x3 then
   some (false, ())
  else Option.bind (Option.bind (bif decide (a1.2.1 = (1 : Int)) then
     some true
    else some (decide (a1.2.1 = (2 : Int))) : Option (Bool)) fun x4 =>
   bif x4 then
    some (Sum.inr (decide ((a1.2.2.1.length : Int) = (1 : Int))))
   else bif decide (a1.2.1 = (3 : Int)) then
    Option.bind (bif decide ((a1.2.2.1.length : Int) = (0 : Int)) then
      Option.bind (g_iin (a1.2.2.2, (0 : Int), IntKind.wrap .i64 (a0 - (1 : Int)))) fun r5 =>
      some r5.1
     else some false : Option (Bool)) fun x6 =>
    some (Sum.inr x6)
   else bif decide (a1.2.1 = (4 : Int)) then
    some (Sum.inr (decide ((0 : Int) < (a1.2.2.1.length : Int))))
   else some (Sum.inl ()) : Option ((Unit) ⊕ (Bool))) fun y => match y with
  | .inl x7 =>
   some (false, ())
  | .inr x7 =>
   some (x7, ()) := by kernel_rfl
def c_iReadOrder : TC :=
 (.seq (.rg [⟨false, [], [], .det 2 (.a (.c [.i .i64, .i .i64, .sl [.i .i64, .i .i64], .i .i64] [.int .i64 (0), .int .i64 (0), .slice none 0 0, .int .i64 (0)])), [4, 1000000001], (some 4), none⟩,
   o1 5 (.lit [.b] [.bool false])])
 (.seq (.rg [o1 8 (.copy 1),
   o1 9 (.build [.s, .i .i64, .b] [(0, .t 8)]),
   o1 10 (.a (.t 9)),
   o1 6 (.p0)])
 (.seq (.rg [⟨false, [], [], .det 2 (.a (.c [.i .i64, .i .i64, .sl [.i .i64, .i .i64], .i .i64] [.int .i64 (0), .int .i64 (0), .slice none 0 0, .int .i64 (0)])), [7, 1000000001], (some 7), none⟩])
 (.seq (.rg [o1 11 (.same 6),
   ⟨false, [], [], .call 2 268 [.t 10] (.mp 0), [12, 10], (some 12), none⟩,
   o1 13 (.idx .nil),
   o4 1 [7] (.store 7 [] 0 (.t 13) (.t 12))])
 (.seq (.rg [o1 14 (.same 6),
   ⟨false, [], [], .call 2 267 [.t 10] (.mp 0), [15, 10], (some 15), none⟩,
   o1 16 (.idx .nil),
   o4 1 [7] (.store 7 [] 1 (.t 16) (.t 15))])
 (.seq (.rg [o1 17 (.same 6),
   ⟨false, [], [], .call 2 268 [.t 10] (.mp 0), [18, 10], (some 18), none⟩,
   o1 19 (.idx .nil),
   o4 1 [7] (.store 7 [] 3 (.t 19) (.t 18))])
 (.seq (.rg [o1 20 (.same 6),
   ⟨false, [], [], .call 2 323 [.t 10] (.mp 0), [21, 10], (some 21), none⟩,
   o1 22 (.idx .nil),
   o4 2 [7, 21] (.store 7 [] 2 (.t 22) (.t 21))])
 (.seq (.seq (.join [⟨31, [.b], false⟩] 4286579712 none (.rg [o1 23 (.same 6),
   ⟨false, [], [], .call 2 273 [.t 10] (.mp 0), [24, 10], (some 24), none⟩,
   o1 25 (.data .not [.t 24]),
   o1 26 (.copy 25),
   o2 27 (.copy 0) 3 false,
   o2 28 (.load 7 [] 0 .nil 4 true) 3 false,
   ⟨false, [], [], .call 1 241 [.t 27, .t 28] .no, [29], (some 29), some (3, false)⟩,
   o2 30 (.data .not [.t 29]) 3 false,
   ⟨false, [], [], .pick 26 (.c (.bool true)) (.t 30), [31], (some 31), none⟩]))
 (.cond (.t 31)
  (.seq (.rg [o1 32 (.build [.i .i64, .i .i64, .sl [.i .i64, .i .i64], .i .i64] []),
    o4 2 [4, 32] (.store 4 [] 0 .nil (.t 32)),
    o1 5 (.lit [.b] [.bool false])])
  .ret)
  .skip))
 (.seq (.rg [o1 33 (.load 7 [] 0 .nil 4 true),
   ⟨false, [33], [], .det 2 (.store 4 [] 0 .nil (.t 33)), [4, 33, 33, 7], none, none⟩,
   o1 5 (.lit [.b] [.bool true])])
 .ret)))))))))
def s_iReadOrder : Sig := ⟨[.rd false [.d], .rd false [.d]], (.tup [(true, 4), (false, 1)] [.d, .d, .sl (.own none) [.d, .d], .d, .d])⟩
noncomputable def E_iReadOrder : TEnv := envOf [(268, p_ireader_num), (267, p_ireader_one), (323, p_ireader_edges), (273, p_ireader_ends), (241, p_iOrderOk)]
noncomputable def f_iReadOrder (n : Nat) : Int × ByteArray → Option ((Int × Int × List (Int × Int) × Int × Bool) × Unit) := runFn n E_iReadOrder c_iReadOrder [[.i .i64], [.s]] [.i .i64, .i .i64, .sl [.i .i64, .i .i64], .i .i64, .b] [] [4, 5] .no
noncomputable def g_iReadOrder := f_iReadOrder BIG
noncomputable def p_iReadOrder : TSp := ⟨s_iReadOrder, [[.i .i64], [.s]], [.i .i64, .i .i64, .sl [.i .i64, .i .i64], .i .i64, .b], [], Ou.j .no, g_iReadOrder⟩
theorem k_iReadOrder : chkW PG E_iReadOrder 271 s_iReadOrder (c_iReadOrder.ht 34) .no = some (c_iReadOrder.wc E_iReadOrder, [4, 5]) := by kernel_rfl
theorem ok_iReadOrder : p_iReadOrder.Ok PG 271 := mkOk (env_cons ok_ireader_num (env_cons ok_ireader_one (env_cons ok_ireader_edges (env_cons ok_ireader_ends (env_cons ok_iOrderOk (env_nil PG)))))) k_iReadOrder (by kernel_rfl)
theorem e_iReadOrder (n : Nat) (a0 : Int) (a1 : ByteArray) : f_iReadOrder n (a0, a1) =
  Option.bind (g_ireader_num (a1, (0 : Int), false)) fun r0 =>
  Option.bind (g_ireader_one r0.2) fun r1 =>
  Option.bind (g_ireader_num r1.2) fun r2 =>
  Option.bind (g_ireader_edges r2.2) fun r3 =>
  Option.bind (Option.bind (g_ireader_ends r3.2) fun r4 =>
   bif !r4.1 then
    some true
   else Option.bind (g_iOrderOk (a0, (r0.1, r1.1, r3.1, r2.1))) fun r5 =>
   some !r5.1 : Option (Bool)) fun x6 =>
  bif x6 then
   some (((0 : Int), (0 : Int), [], (0 : Int), false), ())
  else some ((r0.1, r1.1, r3.1, r2.1, true), ()) := by kernel_rfl
def c_inoAnswer : TC :=
 (.seq (.rg [o1 1 (.a (.t 0)),
   o1 2 (.lit [.b] [.bool false])])
 (.seq (.join [⟨2, [.b], false⟩] 8388604 none (.rg [o1 3 (.idx .nil),
   o1 4 (.load 1 [] 0 (.t 3) 1 false),
   o1 5 (.data (.bin .eql) [.t 4, .c (.int .i64 (0))]),
   o1 6 (.copy 5),
   o2 7 (.idx .nil) 3 true,
   o2 8 (.load 1 [] 1 (.t 7) 1 false) 3 true,
   o2 9 (.data .not [.t 8]) 3 true,
   ⟨false, [], [], .pick 6 (.t 9) (.c (.bool false)), [10], (some 10), none⟩,
   o1 11 (.copy 10),
   o2 12 (.idx .nil) 8 true,
   o2 13 (.load 1 [] 2 (.t 12) 1 false) 8 true,
   o2 14 (.len 13) 8 true,
   o2 15 (.data (.bin .eql) [.t 14, .c (.int .i64 (0))]) 8 true,
   ⟨false, [], [], .pick 11 (.t 15) (.c (.bool false)), [16], (some 16), none⟩,
   o1 17 (.copy 16),
   o2 18 (.idx .nil) 14 true,
   o2 19 (.load 1 [] 3 (.t 18) 1 false) 14 true,
   o2 20 (.len 19) 14 true,
   o2 21 (.data (.bin .eql) [.t 20, .c (.int .i64 (0))]) 14 true,
   ⟨false, [], [], .pick 17 (.t 21) (.c (.bool false)), [22], (some 22), none⟩,
   o1 2 (.copy 22)]))
 .ret))
def s_inoAnswer : Sig := ⟨[.rd true [.d, .d, .sl (.own none) [.d, .d], .sl (.own none) [.d]]], (.one false [.d])⟩
noncomputable def E_inoAnswer : TEnv := envOf []
noncomputable def f_inoAnswer (n : Nat) : (Int × Bool × List (Int × Int) × List (Int)) → Option ((Bool) × Unit) := runFn n E_inoAnswer c_inoAnswer [[.i .i64, .b, .sl [.i .i64, .i .i64], .sl [.i .i64]]] [.b] [] [2] .no
noncomputable def g_inoAnswer := f_inoAnswer BIG
noncomputable def p_inoAnswer : TSp := ⟨s_inoAnswer, [[.i .i64, .b, .sl [.i .i64, .i .i64], .sl [.i .i64]]], [.b], [], Ou.j .no, g_inoAnswer⟩
theorem k_inoAnswer : chkW PG E_inoAnswer 135 s_inoAnswer (c_inoAnswer.ht 23) .no = some (c_inoAnswer.wc E_inoAnswer, [2]) := by kernel_rfl
theorem ok_inoAnswer : p_inoAnswer.Ok PG 135 := mkOk (env_nil PG) k_inoAnswer (by kernel_rfl)
theorem e_inoAnswer (n : Nat) (a0 : Int × Bool × List (Int × Int) × List (Int)) : f_inoAnswer n a0 =
  Option.bind (bif decide (a0.1 = (0 : Int)) then
    bif !a0.2.1 then
     bif decide ((a0.2.2.1.length : Int) = (0 : Int)) then
      some (decide ((a0.2.2.2.length : Int) = (0 : Int)))
     else some false
    else some false
   else some false : Option (Bool)) fun x0 =>
  some (x0, ()) := by kernel_rfl
def c_inoOrder : TC :=
 (.seq (.rg [o1 1 (.a (.t 0)),
   o1 2 (.lit [.b] [.bool false])])
 (.seq (.join [⟨2, [.b], false⟩] 4194300 none (.rg [o1 3 (.idx .nil),
   o1 4 (.load 1 [] 0 (.t 3) 1 false),
   o1 5 (.data (.bin .eql) [.t 4, .c (.int .i64 (0))]),
   o1 6 (.copy 5),
   o2 7 (.idx .nil) 3 true,
   o2 8 (.load 1 [] 1 (.t 7) 1 false) 3 true,
   o2 9 (.data (.bin .eql) [.t 8, .c (.int .i64 (0))]) 3 true,
   ⟨false, [], [], .pick 6 (.t 9) (.c (.bool false)), [10], (some 10), none⟩,
   o1 11 (.copy 10),
   o2 12 (.idx .nil) 8 true,
   o2 13 (.load 1 [] 2 (.t 12) 1 false) 8 true,
   o2 14 (.len 13) 8 true,
   o2 15 (.data (.bin .eql) [.t 14, .c (.int .i64 (0))]) 8 true,
   ⟨false, [], [], .pick 11 (.t 15) (.c (.bool false)), [16], (some 16), none⟩,
   o1 17 (.copy 16),
   o2 18 (.idx .nil) 14 true,
   o2 19 (.load 1 [] 3 (.t 18) 1 false) 14 true,
   o2 20 (.data (.bin .eql) [.t 19, .c (.int .i64 (0))]) 14 true,
   ⟨false, [], [], .pick 17 (.t 20) (.c (.bool false)), [21], (some 21), none⟩,
   o1 2 (.copy 21)]))
 .ret))
def s_inoOrder : Sig := ⟨[.rd true [.d, .d, .sl (.own none) [.d, .d], .d]], (.one false [.d])⟩
noncomputable def E_inoOrder : TEnv := envOf []
noncomputable def f_inoOrder (n : Nat) : (Int × Int × List (Int × Int) × Int) → Option ((Bool) × Unit) := runFn n E_inoOrder c_inoOrder [[.i .i64, .i .i64, .sl [.i .i64, .i .i64], .i .i64]] [.b] [] [2] .no
noncomputable def g_inoOrder := f_inoOrder BIG
noncomputable def p_inoOrder : TSp := ⟨s_inoOrder, [[.i .i64, .i .i64, .sl [.i .i64, .i .i64], .i .i64]], [.b], [], Ou.j .no, g_inoOrder⟩
theorem k_inoOrder : chkW PG E_inoOrder 325 s_inoOrder (c_inoOrder.ht 22) .no = some (c_inoOrder.wc E_inoOrder, [2]) := by kernel_rfl
theorem ok_inoOrder : p_inoOrder.Ok PG 325 := mkOk (env_nil PG) k_inoOrder (by kernel_rfl)
theorem e_inoOrder (n : Nat) (a0 : Int × Int × List (Int × Int) × Int) : f_inoOrder n a0 =
  Option.bind (bif decide (a0.1 = (0 : Int)) then
    bif decide (a0.2.1 = (0 : Int)) then
     bif decide ((a0.2.2.1.length : Int) = (0 : Int)) then
      some (decide (a0.2.2.2 = (0 : Int)))
     else some false
    else some false
   else some false : Option (Bool)) fun x0 =>
  some (x0, ()) := by kernel_rfl
def c_iaskText : TC :=
 (.seq (.rg [o1 1 (.a (.t 0)),
   o1 2 (.lit [.s] [.string ⟨#[]⟩]),
   o1 3 (.lit [.b] [.bool false])])
 (.seq (.rg [o1 4 (.lit [.s] [.string ⟨#[]⟩])])
 (.seq (.join [⟨4, [.s], false⟩] 34359738332 (some [⟨2, [.s], false⟩, ⟨3, [.b], false⟩]) (.seq (.rg [o1 9 (.idx .nil),
   o1 10 (.load 1 [] 0 (.t 9) 1 false),
   o1 11 (.idx .nil),
   o1 12 (.load 1 [] 1 (.t 11) 1 false),
   o1 13 (.idx .nil),
   o1 14 (.load 1 [] 2 (.t 13) 1 false),
   o1 15 (.idx .nil),
   o1 16 (.load 1 [] 3 (.t 15) 1 false),
   o1 17 (.sli [.i .i64] [.t 10, .t 12, .t 14, .t 16]),
   o1 18 (.len 17),
   o1 19 (.lit [.i .i64] [.int .i64 (0)])])
 (.block 0 (.loop [⟨4, [.s], false⟩, ⟨19, [.i .i64], false⟩] 34359214556
  (.seq (.rg [o1 20 (.data (.bin .lss) [.t 19, .t 18])])
  (.seq (.cond (.t 20)
   .skip
   (.exit 0))
  (.seq (.block 1 (.seq (.rg [o1 21 (.index 17 (.t 19)),
    o1 22 (.load 17 [(0, 1)] 0 (.t 21) 1 false),
    o1 6 (.copy 22)])
  (.seq (.seq (.rg [o1 23 (.copy 6),
    o3 24 101 [.t 23, .c [.i .i64] [.int .i64 (0)], .c [.i .i64] [.int .i64 (100000)]],
    o1 25 (.data .not [.t 24])])
  (.cond (.t 25)
   (.seq (.rg [o1 2 (.lit [.s] [.string ⟨#[]⟩]),
     o1 3 (.lit [.b] [.bool false])])
   .ret)
   .skip))
  (.seq (.rg [o1 27 (.copy 6),
    o3 28 321 [.t 27],
    ⟨false, [], [], .det 2 (.copy 28), [26, 28], (some 26), none⟩,
    o1 29 (.ext 26 0 1),
    o1 30 (.ext 26 1 1),
    o1 7 (.copy 29),
    o1 8 (.copy 30)])
  (.rg [o1 31 (.copy 4),
    o1 32 (.copy 7),
    o1 33 (.data (.bin .add) [.t 31, .t 32]),
    o1 4 (.copy 33)])))))
  (.rg [o1 34 (.data (.bin .add) [.t 19, .c (.int .i64 (1))]),
    o1 19 (.copy 34)]))))))))
 (.seq (.rg [o1 35 (.copy 4),
   o1 2 (.copy 35),
   o1 3 (.lit [.b] [.bool true])])
 .ret))))
def s_iaskText : Sig := ⟨[.rd true [.d, .d, .d, .d]], (.tup [(false, 1), (false, 1)] [.d, .d])⟩
noncomputable def E_iaskText : TEnv := envOf [(101, p_iin), (321, p_iVarText)]
noncomputable def f_iaskText (n : Nat) : (Int × Int × Int × Int) → Option ((ByteArray × Bool) × Unit) := runFn n E_iaskText c_iaskText [[.i .i64, .i .i64, .i .i64, .i .i64]] [.s, .b] [] [2, 3] .no
noncomputable def g_iaskText := f_iaskText BIG
noncomputable def p_iaskText : TSp := ⟨s_iaskText, [[.i .i64, .i .i64, .i .i64, .i .i64]], [.s, .b], [], Ou.j .no, g_iaskText⟩
theorem k_iaskText : chkW PG E_iaskText 326 s_iaskText (c_iaskText.ht 36) .no = some (c_iaskText.wc E_iaskText, [2, 3]) := by kernel_rfl
theorem ok_iaskText : p_iaskText.Ok PG 326 := mkOk (env_cons ok_iin (env_cons ok_iVarText (env_nil PG))) k_iaskText (by kernel_rfl)
theorem e_iaskText (n : Nat) (a0 : Int × Int × Int × Int) : f_iaskText n a0 =
  Option.bind (loopT n (X := ByteArray × Int) (B := (ByteArray) ⊕ (ByteArray × Bool)) (fun self1 x0 =>
    bif decide (x0.2 < (([a0.1, a0.2.1, a0.2.2.1, a0.2.2.2]).length : Int)) then
     bnd ([a0.1, a0.2.1, a0.2.2.1, a0.2.2.2]).length x0.2 fun n2 =>
     Option.bind ([a0.1, a0.2.1, a0.2.2.1, a0.2.2.2])[n2]? fun y3 =>
     Option.bind (g_iin (y3, (0 : Int), (100000 : Int))) fun r4 =>
     bif !r4.1 then
      some (Sum.inr ((ByteArray.mk #[]), false))
     else Option.bind (g_iVarText y3) fun r5 =>
     bif decide (x0.1.size + r5.1.1.size ≤ 4611686018427387904) then
      self1 (x0.1 ++ r5.1.1, IntKind.wrap .i64 (x0.2 + (1 : Int)))
     else none
    else some (Sum.inl x0.1)) ((ByteArray.mk #[]), (0 : Int)) : Option ((ByteArray) ⊕ (ByteArray × Bool))) fun y => match y with
  | .inl x6 =>
   some ((x6, true), ())
  | .inr x6 =>
   some (x6, ()) := by kernel_rfl
def c_iedgesText : TC :=
 (.seq (.rg [o1 2 (.lit [.s] [.string ⟨#[]⟩])])
 (.seq (.rg [o1 8 (.copy 0),
   o1 9 (.len 8),
   o3 10 321 [.t 9],
   ⟨false, [], [], .det 2 (.copy 10), [7, 10], (some 7), none⟩,
   o1 11 (.ext 7 0 1),
   o1 12 (.ext 7 1 1),
   o1 3 (.copy 11),
   o1 4 (.copy 12)])
 (.seq (.join [⟨3, [.s], false⟩] 1073733704 none (.seq (.rg [o1 13 (.copy 0),
   o1 14 (.len 13),
   o1 15 (.lit [.i .i64] [.int .i64 (0)])])
 (.block 0 (.loop [⟨3, [.s], false⟩, ⟨15, [.i .i64], false⟩] 1073709128
  (.seq (.rg [o1 16 (.data (.bin .lss) [.t 15, .t 14])])
  (.seq (.cond (.t 16)
   .skip
   (.exit 0))
  (.seq (.block 1 (.seq (.rg [o1 17 (.index 13 (.t 15)),
    o1 18 (.load 13 [(0, 2)] 0 (.t 17) 2 false),
    ⟨false, [], [], .det 2 (.a (.c [.i .i64, .i .i64] [.int .i64 (0), .int .i64 (0)])), [6, 1000000001], (some 6), none⟩,
    o4 1 [6] (.store 6 [] 0 .nil (.t 18))])
  (.rg [o1 19 (.copy 3),
    o1 20 (.idx .nil),
    o1 21 (.load 6 [] 0 (.t 20) 1 false),
    o1 22 (.data (.conv .u8) [.t 21]),
    o1 23 (.idx .nil),
    o1 24 (.load 6 [] 1 (.t 23) 1 false),
    o1 25 (.data (.conv .u8) [.t 24]),
    o1 26 (.sli [.i .u8] [.t 22, .t 25]),
    o1 27 (.bytes 26),
    o1 28 (.data (.bin .add) [.t 19, .t 27]),
    o1 3 (.copy 28)])))
  (.rg [o1 29 (.data (.bin .add) [.t 15, .c (.int .i64 (1))]),
    o1 15 (.copy 29)]))))))))
 (.seq (.rg [o1 30 (.copy 3),
   o1 2 (.copy 30)])
 .ret))))
def s_iedgesText : Sig := ⟨[.rd false [.sl (.own none) [.d, .d]]], (.one false [.d])⟩
noncomputable def E_iedgesText : TEnv := envOf [(321, p_iVarText)]
noncomputable def f_iedgesText (n : Nat) : (List (Int × Int)) → Option ((ByteArray) × Unit) := runFn n E_iedgesText c_iedgesText [[.sl [.i .i64, .i .i64]]] [.s] [] [2] .no
noncomputable def g_iedgesText := f_iedgesText BIG
noncomputable def p_iedgesText : TSp := ⟨s_iedgesText, [[.sl [.i .i64, .i .i64]]], [.s], [], Ou.j .no, g_iedgesText⟩
theorem k_iedgesText : chkW PG E_iedgesText 338 s_iedgesText (c_iedgesText.ht 31) .no = some (c_iedgesText.wc E_iedgesText, [2]) := by kernel_rfl
theorem ok_iedgesText : p_iedgesText.Ok PG 338 := mkOk (env_cons ok_iVarText (env_nil PG)) k_iedgesText (by kernel_rfl)
theorem e_iedgesText (n : Nat) (a0 : List (Int × Int)) : f_iedgesText n a0 =
  Option.bind (g_iVarText (a0.length : Int)) fun r0 =>
  Option.bind (loopT n (X := ByteArray × Int) (B := ByteArray) (fun self2 x1 =>
    bif decide (x1.2 < (a0.length : Int)) then
     bnd a0.length x1.2 fun n3 =>
     Option.bind a0[n3]? fun y4 =>
     bif decide (x1.1.size + (bytesStr ([IntKind.wrap .u8 (y4.1), IntKind.wrap .u8 (y4.2)])).size ≤ 4611686018427387904) then
      self2 (x1.1 ++ (bytesStr ([IntKind.wrap .u8 (y4.1), IntKind.wrap .u8 (y4.2)])), IntKind.wrap .i64 (x1.2 + (1 : Int)))
     else none
    else some x1.1) (r0.1.1, (0 : Int)) : Option (ByteArray)) fun x5 =>
  some (x5, ()) := by kernel_rfl
def c_iAnswerText : TC :=
 (.seq (.rg [o1 3 (.a (.t 1)),
   o1 4 (.lit [.s] [.string ⟨#[]⟩]),
   o1 5 (.lit [.b] [.bool false])])
 (.seq (.seq (.rg [o1 12 (.copy 0),
   o1 13 (.load 3 [] 0 .nil 4 false),
   o3 14 136 [.t 12, .t 13],
   o1 15 (.data .not [.t 14])])
 (.cond (.t 15)
  (.seq (.rg [o1 4 (.lit [.s] [.string ⟨#[]⟩]),
    o1 5 (.lit [.b] [.bool false])])
  .ret)
  .skip))
 (.seq (.rg [o1 17 (.idx .nil),
   o1 18 (.load 3 [] 0 (.t 17) 1 false),
   o3 19 321 [.t 18],
   ⟨false, [], [], .det 2 (.copy 19), [16, 19], (some 16), none⟩,
   o1 20 (.ext 16 0 1),
   o1 21 (.ext 16 1 1),
   o1 6 (.copy 20),
   o1 7 (.copy 21)])
 (.seq (.rg [o1 8 (.lit [.s] [.string ⟨#[0]⟩])])
 (.seq (.join [⟨8, [.s], false⟩] 12583168 none (.seq (.rg [o1 22 (.idx .nil),
   o1 23 (.load 3 [] 1 (.t 22) 1 false)])
 (.cond (.t 23)
  (.rg [o1 8 (.lit [.s] [.string ⟨#[1]⟩])])
  .skip)))
 (.seq (.rg [o1 24 (.copy 6),
   o1 25 (.copy 8),
   o1 26 (.data (.bin .add) [.t 24, .t 25]),
   o1 27 (.idx .nil),
   o1 28 (.load 3 [] 2 (.t 27) 1 false),
   o3 29 338 [.t 28],
   o1 30 (.data (.bin .add) [.t 26, .t 29]),
   o1 9 (.copy 30)])
 (.seq (.join [⟨9, [.s], false⟩] 35182224607744 none (.seq (.rg [o1 31 (.idx .nil),
   o1 32 (.load 3 [] 3 (.t 31) 1 false),
   o1 33 (.len 32),
   o1 34 (.lit [.i .i64] [.int .i64 (0)])])
 (.block 0 (.loop [⟨9, [.s], false⟩, ⟨34, [.i .i64], false⟩] 35167192222208
  (.seq (.rg [o1 35 (.data (.bin .lss) [.t 34, .t 33])])
  (.seq (.cond (.t 35)
   .skip
   (.exit 0))
  (.seq (.block 1 (.seq (.rg [o1 36 (.index 32 (.t 34)),
    o1 37 (.load 32 [(0, 1)] 0 (.t 36) 1 false),
    o1 11 (.copy 37)])
  (.rg [o1 38 (.copy 9),
    o1 39 (.copy 11),
    o1 40 (.data (.conv .u8) [.t 39]),
    o1 41 (.sli [.i .u8] [.t 40]),
    o1 42 (.bytes 41),
    o1 43 (.data (.bin .add) [.t 38, .t 42]),
    o1 9 (.copy 43)])))
  (.rg [o1 44 (.data (.bin .add) [.t 34, .c (.int .i64 (1))]),
    o1 34 (.copy 44)]))))))))
 (.seq (.rg [o1 45 (.copy 9),
   o1 4 (.copy 45),
   o1 5 (.lit [.b] [.bool true])])
 .ret))))))))
def s_iAnswerText : Sig := ⟨[.rd false [.d], .rd true [.d, .d, .sl (.own none) [.d, .d], .sl (.own none) [.d]]], (.tup [(false, 1), (false, 1)] [.d, .d])⟩
noncomputable def E_iAnswerText : TEnv := envOf [(136, p_iAnswerOk), (321, p_iVarText), (338, p_iedgesText)]
noncomputable def f_iAnswerText (n : Nat) : Int × (Int × Bool × List (Int × Int) × List (Int)) → Option ((ByteArray × Bool) × Unit) := runFn n E_iAnswerText c_iAnswerText [[.i .i64], [.i .i64, .b, .sl [.i .i64, .i .i64], .sl [.i .i64]]] [.s, .b] [] [4, 5] .no
noncomputable def g_iAnswerText := f_iAnswerText BIG
noncomputable def p_iAnswerText : TSp := ⟨s_iAnswerText, [[.i .i64], [.i .i64, .b, .sl [.i .i64, .i .i64], .sl [.i .i64]]], [.s, .b], [], Ou.j .no, g_iAnswerText⟩
theorem k_iAnswerText : chkW PG E_iAnswerText 327 s_iAnswerText (c_iAnswerText.ht 46) .no = some (c_iAnswerText.wc E_iAnswerText, [4, 5]) := by kernel_rfl
theorem ok_iAnswerText : p_iAnswerText.Ok PG 327 := mkOk (env_cons ok_iAnswerOk (env_cons ok_iVarText (env_cons ok_iedgesText (env_nil PG)))) k_iAnswerText (by kernel_rfl)
theorem e_iAnswerText (n : Nat) (a0 : Int) (a1 : Int × Bool × List (Int × Int) × List (Int)) : f_iAnswerText n (a0, a1) =
  Option.bind (g_iAnswerOk (a0, a1)) fun r0 =>
  bif !r0.1 then
   some (((ByteArray.mk #[]), false), ())
  else Option.bind (g_iVarText a1.1) fun r1 =>
  Option.bind (bif a1.2.1 then
    some (ByteArray.mk #[1])
   else some (ByteArray.mk #[0]) : Option (ByteArray)) fun x2 =>
  bif decide (r1.1.1.size + x2.size ≤ 4611686018427387904) then
   Option.bind (g_iedgesText a1.2.2.1) fun r3 =>
   bif decide ((r1.1.1 ++ x2).size + r3.1.size ≤ 4611686018427387904) then
    Option.bind (loopT n (X := ByteArray × Int) (B := ByteArray) (fun self5 x4 =>
      bif decide (x4.2 < (a1.2.2.2.length : Int)) then
       bnd a1.2.2.2.length x4.2 fun n6 =>
       Option.bind a1.2.2.2[n6]? fun y7 =>
       bif decide (x4.1.size + (bytesStr ([IntKind.wrap .u8 (y7)])).size ≤ 4611686018427387904) then
        self5 (x4.1 ++ (bytesStr ([IntKind.wrap .u8 (y7)])), IntKind.wrap .i64 (x4.2 + (1 : Int)))
       else none
      else some x4.1) ((r1.1.1 ++ x2) ++ r3.1, (0 : Int)) : Option (ByteArray)) fun x8 =>
    some ((x8, true), ())
   else none
  else none := by kernel_rfl
def c_iShortText : TC :=
 (.seq (.rg [o1 2 (.lit [.s] [.string ⟨#[]⟩]),
   o1 3 (.lit [.b] [.bool false])])
 (.seq (.seq (.rg [o1 6 (.copy 0),
   o1 7 (.data .slen [.t 6]),
   o1 8 (.data (.bin .gtr) [.t 7, .c (.int .i64 (20000))])])
 (.cond (.t 8)
  (.seq (.rg [o1 2 (.lit [.s] [.string ⟨#[]⟩]),
    o1 3 (.lit [.b] [.bool false])])
  .ret)
  .skip))
 (.seq (.rg [o1 10 (.copy 0),
   o1 11 (.data .slen [.t 10]),
   o3 12 321 [.t 11],
   ⟨false, [], [], .det 2 (.copy 12), [9, 12], (some 9), none⟩,
   o1 13 (.ext 9 0 1),
   o1 14 (.ext 9 1 1),
   o1 4 (.copy 13),
   o1 5 (.copy 14)])
 (.seq (.rg [o1 15 (.copy 4),
   o1 16 (.copy 0),
   o1 17 (.data (.bin .add) [.t 15, .t 16]),
   o1 2 (.copy 17),
   o1 3 (.lit [.b] [.bool true])])
 .ret))))
def s_iShortText : Sig := ⟨[.rd false [.d]], (.tup [(false, 1), (false, 1)] [.d, .d])⟩
noncomputable def E_iShortText : TEnv := envOf [(321, p_iVarText)]
noncomputable def f_iShortText (n : Nat) : ByteArray → Option ((ByteArray × Bool) × Unit) := runFn n E_iShortText c_iShortText [[.s]] [.s, .b] [] [2, 3] .no
noncomputable def g_iShortText := f_iShortText BIG
noncomputable def p_iShortText : TSp := ⟨s_iShortText, [[.s]], [.s, .b], [], Ou.j .no, g_iShortText⟩
theorem k_iShortText : chkW PG E_iShortText 328 s_iShortText (c_iShortText.ht 18) .no = some (c_iShortText.wc E_iShortText, [2, 3]) := by kernel_rfl
theorem ok_iShortText : p_iShortText.Ok PG 328 := mkOk (env_cons ok_iVarText (env_nil PG)) k_iShortText (by kernel_rfl)
theorem e_iShortText (n : Nat) (a0 : ByteArray) : f_iShortText n a0 =
  bif decide ((20000 : Int) < (a0.size : Int)) then
   some (((ByteArray.mk #[]), false), ())
  else Option.bind (g_iVarText (a0.size : Int)) fun r0 =>
  bif decide (r0.1.1.size + a0.size ≤ 4611686018427387904) then
   some ((r0.1.1 ++ a0, true), ())
  else none := by kernel_rfl
end Go.Fw
