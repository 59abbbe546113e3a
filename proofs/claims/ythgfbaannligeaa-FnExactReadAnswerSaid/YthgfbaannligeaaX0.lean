/- The given functions, as what they compute; each is shown to be what the code does. No conditions. -/
import Derived.Test.YthgfbaannligeaaG4
import Derived.Test.YthgfbaannligeaaProg
set_option linter.unusedVariables false
set_option linter.unusedSimpArgs false
namespace Go.Fw
noncomputable abbrev PG := Go.Proofs.Try.prog
def o2 (d : Nat) (e : ED) (j : Nat) (b : Bool) : TO := ⟨false, [], [], .det 1 e, [d], some d, some (j, b)⟩
def o3 (d : Nat) (K : FuncId) (gets : List OY) : TO := ⟨false, [], [], .call 1 K gets .no, [d], some d, none⟩
def o4 (n : Nat) (ds : List Nat) (e : ED) : TO := ⟨false, [], [], .det n e, ds, none, none⟩
end Go.Fw
namespace Go.Fw
/- spec.l01In -/
def c_sl01In : TC :=
 (.seq (.rg [o1 6 (.lit [.b] [.bool false])])
 (.seq (.join [⟨6, [.b], false⟩] 32704 none (.rg [o1 7 (.copy 0),
   o1 8 (.copy 1),
   o1 9 (.data (.bin .geq) [.t 7, .t 8]),
   o1 10 (.copy 9),
   o2 11 (.copy 0) 3 true,
   o2 12 (.copy 2) 3 true,
   o2 13 (.data (.bin .leq) [.t 11, .t 12]) 3 true,
   ⟨false, [], [], .pick 10 (.t 13) (.c (.bool false)), [14], (some 14), none⟩,
   o1 6 (.copy 14)]))
 .ret))
def s_sl01In : Sig := ⟨[.rd false [.d], .rd false [.d], .rd false [.d]], (.one false [.d])⟩
noncomputable def E_sl01In : TEnv := envOf []
noncomputable def f_sl01In (n : Nat) : Int × Int × Int → Option ((Bool) × Unit) := runFn n E_sl01In c_sl01In [[.i .i64], [.i .i64], [.i .i64]] [.b] [] [6] .no
noncomputable def g_sl01In := f_sl01In BIG
noncomputable def p_sl01In : TSp := ⟨s_sl01In, [[.i .i64], [.i .i64], [.i .i64]], [.b], [], Ou.j .no, g_sl01In⟩
theorem k_sl01In : chkW PG E_sl01In 163 s_sl01In (c_sl01In.ht 15) .no = some (c_sl01In.wc E_sl01In, [6]) := by kernel_rfl
theorem ok_sl01In : p_sl01In.Ok PG 163 := mkOk (env_nil PG) k_sl01In (by kernel_rfl)
theorem e_sl01In (n : Nat) (a0 : Int) (a1 : Int) (a2 : Int) : f_sl01In n (a0, a1, a2) =
  Option.bind (bif decide (a1 ≤ a0) then
    some (decide (a0 ≤ a2))
   else some false : Option (Bool)) fun x0 =>
  some (x0, ()) := by kernel_rfl
/- spec.l01Var -/
def c_sl01Var : TC :=
 (.seq (.rg [o1 2 (.lit [.s] [.string ⟨#[]⟩])])
 (.seq (.rg [o1 4 (.sli [.i .u8] []),
   ⟨false, [], [], .det 2 (.copy 4), [3, 4], (some 3), none⟩])
 (.seq (.join [⟨3, [.sl [.i .u8]], false⟩, ⟨0, [.i .i64], false⟩] 65513 none (.block 0 (.loop [⟨3, [.sl [.i .u8]], false⟩, ⟨0, [.i .i64], false⟩] 65513
  (.seq (.seq (.rg [o1 5 (.copy 0),
    o1 6 (.data (.bin .gtr) [.t 5, .c (.int .i64 (127))])])
  (.cond (.t 6)
   .skip
   (.exit 0)))
  (.block 1 (.seq (.rg [⟨false, [], [], .det 2 (.copy 3), [7, 3], (some 7), none⟩,
    o1 8 (.copy 0),
    o1 9 (.data (.bin .rem) [.t 8, .c (.int .i64 (128))]),
    o1 10 (.data (.bin .add) [.t 9, .c (.int .i64 (128))]),
    o1 11 (.data (.conv .u8) [.t 10]),
    o1 12 (.sli [.i .u8] [.t 11]),
    ⟨false, [], [], .det 2 (.app (some 7) 12), [13, 7], (some 13), none⟩,
    ⟨false, [], [], .det 2 (.copy 13), [3, 13], (some 3), none⟩])
  (.rg [o1 14 (.copy 0),
    o1 15 (.data (.bin .quo) [.t 14, .c (.int .i64 (128))]),
    o1 0 (.copy 15)])))))))
 (.seq (.rg [⟨false, [], [], .det 2 (.copy 3), [16, 3], (some 16), none⟩,
   o1 17 (.copy 0),
   o1 18 (.data (.conv .u8) [.t 17]),
   o1 19 (.sli [.i .u8] [.t 18]),
   ⟨false, [], [], .det 2 (.app (some 16) 19), [20, 16], (some 20), none⟩,
   o1 21 (.bytes 20),
   o1 2 (.copy 21)])
 .ret))))
def s_sl01Var : Sig := ⟨[.rd false [.d]], (.one false [.d])⟩
noncomputable def E_sl01Var : TEnv := envOf []
noncomputable def f_sl01Var (n : Nat) : Int → Option ((ByteArray) × Unit) := runFn n E_sl01Var c_sl01Var [[.i .i64]] [.s] [] [2] .no
noncomputable def g_sl01Var := f_sl01Var BIG
noncomputable def p_sl01Var : TSp := ⟨s_sl01Var, [[.i .i64]], [.s], [], Ou.j .no, g_sl01Var⟩
theorem k_sl01Var : chkW PG E_sl01Var 232 s_sl01Var (c_sl01Var.ht 22) .no = some (c_sl01Var.wc E_sl01Var, [2]) := by kernel_rfl
theorem ok_sl01Var : p_sl01Var.Ok PG 232 := mkOk (env_nil PG) k_sl01Var (by kernel_rfl)
theorem e_sl01Var (n : Nat) (a0 : Int) : f_sl01Var n a0 =
  Option.bind (loopT n (X := (List (Int)) × Int) (B := (List (Int)) × Int) (fun self1 x0 =>
    bif decide ((127 : Int) < x0.2) then
     bif decide ((128 : Int) = 0) then
      none
     else bif decide (x0.1.length + ([IntKind.wrap .u8 (IntKind.wrap .i64 ((Int.tmod x0.2 (128 : Int)) + (128 : Int)))]).length ≤ 4294967296) then
      bif decide ((128 : Int) = 0) then
       none
      else self1 (x0.1 ++ ([IntKind.wrap .u8 (IntKind.wrap .i64 ((Int.tmod x0.2 (128 : Int)) + (128 : Int)))]), IntKind.wrap .i64 (Int.tdiv x0.2 (128 : Int)))
     else none
    else some (x0.1, x0.2)) ([], a0) : Option ((List (Int)) × Int)) fun x2 =>
  bif decide (x2.1.length + ([IntKind.wrap .u8 (x2.2)]).length ≤ 4294967296) then
   some (bytesStr (x2.1 ++ ([IntKind.wrap .u8 (x2.2)])), ())
  else none := by kernel_rfl
/- spec.ReadVar -/
def c_sReadVar : TC :=
 (.seq (.rg [o1 4 (.lit [.i .i64] [.int .i64 (0)]),
   o1 5 (.lit [.i .i64] [.int .i64 (0)]),
   o1 6 (.lit [.b] [.bool false])])
 (.seq (.seq (.rg [o1 10 (.copy 1),
   o1 11 (.copy 0),
   o1 12 (.data .slen [.t 11]),
   o3 13 163 [.t 10, .c [.i .i64] [.int .i64 (0)], .t 12],
   o1 14 (.data .not [.t 13])])
 (.cond (.t 14)
  (.seq (.rg [o1 4 (.lit [.i .i64] [.int .i64 (0)]),
    o1 5 (.lit [.i .i64] [.int .i64 (0)]),
    o1 6 (.lit [.b] [.bool false])])
  .ret)
  .skip))
 (.seq (.rg [o1 7 (.lit [.i .i64] [.int .i64 (0)])])
 (.seq (.rg [o1 8 (.lit [.i .i64] [.int .i64 (1)])])
 (.seq (.join [] 288230376151679984 (some [⟨4, [.i .i64], false⟩, ⟨5, [.i .i64], false⟩, ⟨6, [.b], false⟩]) (.seq (.rg [o1 15 (.copy 1),
   o1 9 (.copy 15)])
 (.block 0 (.loop [⟨7, [.i .i64], false⟩, ⟨8, [.i .i64], false⟩, ⟨9, [.i .i64], false⟩] 288230376151647216
  (.seq (.seq (.join [⟨25, [.b], false⟩] 67043328 none (.rg [o1 16 (.copy 9),
    o1 17 (.copy 0),
    o1 18 (.data .slen [.t 17]),
    o1 19 (.data (.bin .lss) [.t 16, .t 18]),
    o1 20 (.copy 19),
    o2 21 (.copy 9) 4 true,
    o2 22 (.copy 1) 4 true,
    o2 23 (.data (.bin .add) [.t 22, .c (.int .i64 (5))]) 4 true,
    o2 24 (.data (.bin .lss) [.t 21, .t 23]) 4 true,
    ⟨false, [], [], .pick 20 (.t 24) (.c (.bool false)), [25], (some 25), none⟩]))
  (.cond (.t 25)
   .skip
   (.exit 0)))
  (.seq (.block 1 (.seq (.rg [o1 28 (.copy 7),
    o1 29 (.copy 0),
    o1 30 (.copy 9),
    o1 31 (.data .sidx [.t 29, .t 30]),
    o1 32 (.data (.conv .i64) [.t 31]),
    o1 33 (.data (.bin .rem) [.t 32, .c (.int .i64 (128))]),
    o1 34 (.copy 8),
    o1 35 (.data (.bin .mul) [.t 33, .t 34]),
    o1 36 (.data (.bin .add) [.t 28, .t 35]),
    o1 7 (.copy 36)])
  (.seq (.rg [o1 37 (.copy 8),
    o1 38 (.data (.bin .mul) [.t 37, .c (.int .i64 (128))]),
    o1 8 (.copy 38)])
  (.seq (.rg [o1 39 (.copy 0),
    o1 40 (.copy 9),
    o1 41 (.data .sidx [.t 39, .t 40]),
    o1 42 (.data (.bin .lss) [.t 41, .c (.int .u8 (128))])])
  (.cond (.t 42)
   (.seq (.seq (.join [⟨54, [.b], false⟩] 36020000925941760 none (.rg [o1 43 (.copy 7),
     o1 44 (.data (.bin .gtr) [.t 43, .c (.int .i64 (1000000000))]),
     o1 45 (.copy 44),
     o2 46 (.copy 7) 2 false,
     ⟨false, [], [], .call 1 232 [.t 46] .no, [47], (some 47), some (2, false)⟩,
     o2 48 (.copy 0) 2 false,
     o2 49 (.copy 1) 2 false,
     o2 50 (.copy 9) 2 false,
     o2 51 (.data (.bin .add) [.t 50, .c (.int .i64 (1))]) 2 false,
     o2 52 (.data (.ssl true true) [.t 48, .t 49, .t 51]) 2 false,
     o2 53 (.data (.bin .neq) [.t 47, .t 52]) 2 false,
     ⟨false, [], [], .pick 45 (.c (.bool true)) (.t 53), [54], (some 54), none⟩]))
   (.cond (.t 54)
    (.seq (.rg [o1 4 (.lit [.i .i64] [.int .i64 (0)]),
      o1 5 (.lit [.i .i64] [.int .i64 (0)]),
      o1 6 (.lit [.b] [.bool false])])
    .ret)
    .skip))
   (.seq (.rg [o1 55 (.copy 7),
     o1 56 (.copy 9),
     o1 57 (.data (.bin .add) [.t 56, .c (.int .i64 (1))]),
     o1 4 (.copy 55),
     o1 5 (.copy 57),
     o1 6 (.lit [.b] [.bool true])])
   .ret))
   .skip)))))
  (.rg [o1 26 (.copy 9),
    o1 27 (.data (.bin .add) [.t 26, .c (.int .i64 (1))]),
    o1 9 (.copy 27)])))))))
 (.seq (.rg [o1 4 (.lit [.i .i64] [.int .i64 (0)]),
   o1 5 (.lit [.i .i64] [.int .i64 (0)]),
   o1 6 (.lit [.b] [.bool false])])
 .ret))))))
def s_sReadVar : Sig := ⟨[.rd false [.d], .rd false [.d]], (.tup [(false, 1), (false, 1), (false, 1)] [.d, .d, .d])⟩
noncomputable def E_sReadVar : TEnv := envOf [(163, p_sl01In), (232, p_sl01Var)]
noncomputable def f_sReadVar (n : Nat) : ByteArray × Int → Option ((Int × Int × Bool) × Unit) := runFn n E_sReadVar c_sReadVar [[.s], [.i .i64]] [.i .i64, .i .i64, .b] [] [4, 5, 6] .no
noncomputable def g_sReadVar := f_sReadVar BIG
noncomputable def p_sReadVar : TSp := ⟨s_sReadVar, [[.s], [.i .i64]], [.i .i64, .i .i64, .b], [], Ou.j .no, g_sReadVar⟩
theorem k_sReadVar : chkW PG E_sReadVar 300 s_sReadVar (c_sReadVar.ht 58) .no = some (c_sReadVar.wc E_sReadVar, [4, 5, 6]) := by kernel_rfl
theorem ok_sReadVar : p_sReadVar.Ok PG 300 := mkOk (env_cons ok_sl01In (env_cons ok_sl01Var (env_nil PG))) k_sReadVar (by kernel_rfl)
theorem e_sReadVar (n : Nat) (a0 : ByteArray) (a1 : Int) : f_sReadVar n (a0, a1) =
  Option.bind (g_sl01In (a1, (0 : Int), (a0.size : Int))) fun r0 =>
  bif !r0.1 then
   some (((0 : Int), (0 : Int), false), ())
  else Option.bind (loopT n (X := Int × Int × Int) (B := (Unit) ⊕ (Int × Int × Bool)) (fun self2 x1 =>
    Option.bind (bif decide (x1.2.2 < (a0.size : Int)) then
      some (decide (x1.2.2 < (IntKind.wrap .i64 (a1 + (5 : Int)))))
     else some false : Option (Bool)) fun x3 =>
    bif x3 then
     bnd a0.size x1.2.2 fun n4 => Option.bind a0[n4]? fun b5 =>
     bif decide ((128 : Int) = 0) then
      none
     else bnd a0.size x1.2.2 fun n6 => Option.bind a0[n6]? fun b7 =>
     bif decide ((b7.toNat : Int) < (128 : Int)) then
      Option.bind (bif decide ((1000000000 : Int) < (IntKind.wrap .i64 (x1.1 + (IntKind.wrap .i64 ((Int.tmod (IntKind.wrap .i64 ((b5.toNat : Int))) (128 : Int)) * x1.2.1))))) then
        some true
       else Option.bind (g_sl01Var (IntKind.wrap .i64 (x1.1 + (IntKind.wrap .i64 ((Int.tmod (IntKind.wrap .i64 ((b5.toNat : Int))) (128 : Int)) * x1.2.1))))) fun r8 =>
       bif decide (0 ≤ a1 ∧ a1 ≤ (IntKind.wrap .i64 (x1.2.2 + (1 : Int))) ∧ (IntKind.wrap .i64 (x1.2.2 + (1 : Int))) ≤ a0.size) then
        some (!(r8.1.toList == (a0.extract (Int.toNat a1) (Int.toNat (IntKind.wrap .i64 (x1.2.2 + (1 : Int))))).toList))
       else none : Option (Bool)) fun x9 =>
      bif x9 then
       some (Sum.inr ((0 : Int), (0 : Int), false))
      else some (Sum.inr (IntKind.wrap .i64 (x1.1 + (IntKind.wrap .i64 ((Int.tmod (IntKind.wrap .i64 ((b5.toNat : Int))) (128 : Int)) * x1.2.1))), IntKind.wrap .i64 (x1.2.2 + (1 : Int)), true))
     else self2 (IntKind.wrap .i64 (x1.1 + (IntKind.wrap .i64 ((Int.tmod (IntKind.wrap .i64 ((b5.toNat : Int))) (128 : Int)) * x1.2.1))), IntKind.wrap .i64 (x1.2.1 * (128 : Int)), IntKind.wrap .i64 (x1.2.2 + (1 : Int)))
    else some (Sum.inl ())) ((0 : Int), (1 : Int), a1) : Option ((Unit) ⊕ (Int × Int × Bool))) fun y => match y with
  | .inl x10 =>
   some (((0 : Int), (0 : Int), false), ())
  | .inr x10 =>
   some (x10, ()) := by kernel_rfl
/- spec.l09Var -/
def c_sl09Var : TC :=
 (.seq (.rg [o1 2 (.lit [.i .i64] [.int .i64 (0)])])
 (.seq (.rg [o1 7 (.p0),
   o1 8 (.same 7),
   o1 9 (.idx (.t 8)),
   o1 10 (.load 0 [] 0 (.t 9) 1 false),
   o1 11 (.p0),
   o1 12 (.same 11),
   o1 13 (.idx (.t 12)),
   o1 14 (.load 0 [] 1 (.t 13) 1 false),
   o3 15 300 [.t 10, .t 14],
   ⟨false, [], [], .det 2 (.copy 15), [6, 15], (some 6), none⟩,
   o1 16 (.ext 6 0 1),
   o1 17 (.ext 6 1 1),
   o1 18 (.ext 6 2 1),
   o1 3 (.copy 16),
   o1 4 (.copy 17),
   o1 5 (.copy 18)])
 (.seq (.seq (.join [⟨26, [.b], false⟩] 133693440 none (.rg [o1 19 (.p0),
   o1 20 (.same 19),
   o1 21 (.idx (.t 20)),
   o1 22 (.load 0 [] 2 (.t 21) 1 false),
   o1 23 (.copy 22),
   o2 24 (.copy 5) 4 false,
   o2 25 (.data .not [.t 24]) 4 false,
   ⟨false, [], [], .pick 23 (.c (.bool true)) (.t 25), [26], (some 26), none⟩]))
 (.cond (.t 26)
  (.seq (.rg [o1 27 (.p0),
    o1 28 (.same 27),
    o1 29 (.idx (.t 28)),
    o4 1 [0] (.store 0 [] 2 (.t 29) (.c [.b] [.bool true]))])
  (.seq (.rg [o1 2 (.lit [.i .i64] [.int .i64 (0)])])
  .ret))
  .skip))
 (.seq (.rg [o1 30 (.p0),
   o1 31 (.copy 4),
   o1 32 (.same 30),
   o1 33 (.idx (.t 32)),
   o4 1 [0] (.store 0 [] 1 (.t 33) (.t 31))])
 (.seq (.rg [o1 34 (.copy 3),
   o1 2 (.copy 34)])
 .ret)))))
def s_sl09Var : Sig := ⟨[.mp [.d, .d, .d]], (.one false [.d])⟩
noncomputable def E_sl09Var : TEnv := envOf [(300, p_sReadVar)]
noncomputable def f_sl09Var (n : Nat) : (ByteArray × Int × Bool) → Option ((Int) × ByteArray × Int × Bool) := runFn n E_sl09Var c_sl09Var [[.s, .i .i64, .b]] [.i .i64] [.s, .i .i64, .b] [2] (.mp 0)
noncomputable def g_sl09Var := f_sl09Var BIG
noncomputable def p_sl09Var : TSp := ⟨s_sl09Var, [[.s, .i .i64, .b]], [.i .i64], [.s, .i .i64, .b], Ou.j (.mp 0), g_sl09Var⟩
theorem k_sl09Var : chkW PG E_sl09Var 184 s_sl09Var (c_sl09Var.ht 35) (.mp 0) = some (c_sl09Var.wc E_sl09Var, [2]) := by kernel_rfl
theorem ok_sl09Var : p_sl09Var.Ok PG 184 := mkOk (env_cons ok_sReadVar (env_nil PG)) k_sl09Var (by kernel_rfl)
theorem e_sl09Var (n : Nat) (a0 : ByteArray × Int × Bool) : f_sl09Var n a0 =
  Option.bind (g_sReadVar (a0.1, a0.2.1)) fun r0 =>
  Option.bind (bif a0.2.2 then
    some true
   else some !r0.1.2.2 : Option (Bool)) fun x1 =>
  bif x1 then
   some ((0 : Int), (a0.1, a0.2.1, true))
  else some (r0.1.1, (a0.1, r0.1.2.1, a0.2.2)) := by kernel_rfl
/- spec.l09Take -/
def c_sl09Take : TC :=
 (.seq (.rg [o1 4 (.lit [.s] [.string ⟨#[]⟩])])
 (.seq (.seq (.join [⟨22, [.b], false⟩] 8388576 none (.rg [o1 5 (.p0),
   o1 6 (.same 5),
   o1 7 (.idx (.t 6)),
   o1 8 (.load 0 [] 2 (.t 7) 1 false),
   o1 9 (.copy 8),
   o2 10 (.copy 1) 4 false,
   o2 11 (.p0) 4 false,
   o2 12 (.same 11) 4 false,
   o2 13 (.idx (.t 12)) 4 false,
   o2 14 (.load 0 [] 0 (.t 13) 1 false) 4 false,
   o2 15 (.data .slen [.t 14]) 4 false,
   o2 16 (.p0) 4 false,
   o2 17 (.same 16) 4 false,
   o2 18 (.idx (.t 17)) 4 false,
   o2 19 (.load 0 [] 1 (.t 18) 1 false) 4 false,
   o2 20 (.data (.bin .sub) [.t 15, .t 19]) 4 false,
   o2 21 (.data (.bin .gtr) [.t 10, .t 20]) 4 false,
   ⟨false, [], [], .pick 9 (.c (.bool true)) (.t 21), [22], (some 22), none⟩]))
 (.cond (.t 22)
  (.seq (.rg [o1 23 (.p0),
    o1 24 (.same 23),
    o1 25 (.idx (.t 24)),
    o4 1 [0] (.store 0 [] 2 (.t 25) (.c [.b] [.bool true]))])
  (.seq (.rg [o1 4 (.lit [.s] [.string ⟨#[]⟩])])
  .ret))
  .skip))
 (.seq (.rg [o1 26 (.p0),
   o1 27 (.p0),
   o1 28 (.same 27),
   o1 29 (.idx (.t 28)),
   o1 30 (.load 0 [] 1 (.t 29) 1 false),
   o1 31 (.copy 1),
   o1 32 (.data (.bin .add) [.t 30, .t 31]),
   o1 33 (.same 26),
   o1 34 (.idx (.t 33)),
   o4 1 [0] (.store 0 [] 1 (.t 34) (.t 32))])
 (.seq (.rg [o1 35 (.p0),
   o1 36 (.same 35),
   o1 37 (.idx (.t 36)),
   o1 38 (.load 0 [] 0 (.t 37) 1 false),
   o1 39 (.p0),
   o1 40 (.same 39),
   o1 41 (.idx (.t 40)),
   o1 42 (.load 0 [] 1 (.t 41) 1 false),
   o1 43 (.copy 1),
   o1 44 (.data (.bin .sub) [.t 42, .t 43]),
   o1 45 (.p0),
   o1 46 (.same 45),
   o1 47 (.idx (.t 46)),
   o1 48 (.load 0 [] 1 (.t 47) 1 false),
   o1 49 (.data (.ssl true true) [.t 38, .t 44, .t 48]),
   o1 4 (.copy 49)])
 .ret))))
def s_sl09Take : Sig := ⟨[.mp [.d, .d, .d], .rd false [.d]], (.one false [.d])⟩
noncomputable def E_sl09Take : TEnv := envOf []
noncomputable def f_sl09Take (n : Nat) : (ByteArray × Int × Bool) × Int → Option ((ByteArray) × ByteArray × Int × Bool) := runFn n E_sl09Take c_sl09Take [[.s, .i .i64, .b], [.i .i64]] [.s] [.s, .i .i64, .b] [4] (.mp 0)
noncomputable def g_sl09Take := f_sl09Take BIG
noncomputable def p_sl09Take : TSp := ⟨s_sl09Take, [[.s, .i .i64, .b], [.i .i64]], [.s], [.s, .i .i64, .b], Ou.j (.mp 0), g_sl09Take⟩
theorem k_sl09Take : chkW PG E_sl09Take 264 s_sl09Take (c_sl09Take.ht 50) (.mp 0) = some (c_sl09Take.wc E_sl09Take, [4]) := by kernel_rfl
theorem ok_sl09Take : p_sl09Take.Ok PG 264 := mkOk (env_nil PG) k_sl09Take (by kernel_rfl)
theorem e_sl09Take (n : Nat) (a0 : ByteArray × Int × Bool) (a1 : Int) : f_sl09Take n (a0, a1) =
  Option.bind (bif a0.2.2 then
    some true
   else some (decide ((IntKind.wrap .i64 ((a0.1.size : Int) - a0.2.1)) < a1)) : Option (Bool)) fun x0 =>
  bif x0 then
   some ((ByteArray.mk #[]), (a0.1, a0.2.1, true))
  else bif decide (0 ≤ (IntKind.wrap .i64 ((IntKind.wrap .i64 (a0.2.1 + a1)) - a1)) ∧ (IntKind.wrap .i64 ((IntKind.wrap .i64 (a0.2.1 + a1)) - a1)) ≤ (IntKind.wrap .i64 (a0.2.1 + a1)) ∧ (IntKind.wrap .i64 (a0.2.1 + a1)) ≤ a0.1.size) then
   some (a0.1.extract (Int.toNat (IntKind.wrap .i64 ((IntKind.wrap .i64 (a0.2.1 + a1)) - a1))) (Int.toNat (IntKind.wrap .i64 (a0.2.1 + a1))), (a0.1, IntKind.wrap .i64 (a0.2.1 + a1), a0.2.2))
  else none := by kernel_rfl
/- spec.l09One -/
def c_sl09One : TC :=
 (.seq (.rg [o1 2 (.lit [.i .i64] [.int .i64 (0)])])
 (.seq (.rg [o1 4 (.p0),
   ⟨false, [], [], .call 2 264 [.t 0, .c [.i .i64] [.int .i64 (1)]] (.mp 0), [5, 0], (some 5), none⟩,
   o1 3 (.copy 5)])
 (.seq (.seq (.rg [o1 6 (.p0),
   o1 7 (.same 6),
   o1 8 (.idx (.t 7)),
   o1 9 (.load 0 [] 2 (.t 8) 1 false)])
 (.cond (.t 9)
  (.seq (.rg [o1 2 (.lit [.i .i64] [.int .i64 (0)])])
  .ret)
  .skip))
 (.seq (.rg [o1 10 (.copy 3),
   o1 11 (.data .sidx [.t 10, .c (.int .i64 (0))]),
   o1 12 (.data (.conv .i64) [.t 11]),
   o1 2 (.copy 12)])
 .ret))))
def s_sl09One : Sig := ⟨[.mp [.d, .d, .d]], (.one false [.d])⟩
noncomputable def E_sl09One : TEnv := envOf [(264, p_sl09Take)]
noncomputable def f_sl09One (n : Nat) : (ByteArray × Int × Bool) → Option ((Int) × ByteArray × Int × Bool) := runFn n E_sl09One c_sl09One [[.s, .i .i64, .b]] [.i .i64] [.s, .i .i64, .b] [2] (.mp 0)
noncomputable def g_sl09One := f_sl09One BIG
noncomputable def p_sl09One : TSp := ⟨s_sl09One, [[.s, .i .i64, .b]], [.i .i64], [.s, .i .i64, .b], Ou.j (.mp 0), g_sl09One⟩
theorem k_sl09One : chkW PG E_sl09One 185 s_sl09One (c_sl09One.ht 13) (.mp 0) = some (c_sl09One.wc E_sl09One, [2]) := by kernel_rfl
theorem ok_sl09One : p_sl09One.Ok PG 185 := mkOk (env_cons ok_sl09Take (env_nil PG)) k_sl09One (by kernel_rfl)
theorem e_sl09One (n : Nat) (a0 : ByteArray × Int × Bool) : f_sl09One n a0 =
  Option.bind (g_sl09Take (a0, (1 : Int))) fun r0 =>
  bif r0.2.2.2 then
   some ((0 : Int), r0.2)
  else bnd r0.1.size (0 : Int) fun n1 => Option.bind r0.1[n1]? fun b2 =>
  some (IntKind.wrap .i64 ((b2.toNat : Int)), r0.2) := by kernel_rfl
/- spec.l09ReadEdges -/
def c_sl09ReadEdges : TC :=
 (.seq (.rg [o1 2 (.lit [.sl [.i .i64, .i .i64]] [.slice none 0 0])])
 (.seq (.rg [o1 7 (.sli [.i .i64, .i .i64] []),
   ⟨false, [], [], .det 2 (.copy 7), [3, 7], (some 3), none⟩])
 (.seq (.rg [o1 8 (.p0),
   ⟨false, [], [], .call 2 184 [.t 0] (.mp 0), [9, 0], (some 9), none⟩,
   o1 4 (.copy 9)])
 (.seq (.join [⟨0, [.s, .i .i64, .b], false⟩, ⟨3, [.sl [.i .i64, .i .i64]], false⟩] 68719475817 none (.seq (.rg [o1 5 (.lit [.i .i64] [.int .i64 (0)])])
 (.block 0 (.loop [⟨0, [.s, .i .i64, .b], false⟩, ⟨3, [.sl [.i .i64, .i .i64]], false⟩, ⟨5, [.i .i64], false⟩] 68719475817
  (.seq (.seq (.join [⟨23, [.b], false⟩] 16776192 none (.rg [o1 10 (.copy 5),
    o1 11 (.copy 4),
    o1 12 (.data (.bin .lss) [.t 10, .t 11]),
    o1 13 (.copy 12),
    o2 14 (.copy 5) 3 true,
    o2 15 (.data (.bin .lss) [.t 14, .c (.int .i64 (100))]) 3 true,
    ⟨false, [], [], .pick 13 (.t 15) (.c (.bool false)), [16], (some 16), none⟩,
    o1 17 (.copy 16),
    o2 18 (.p0) 7 true,
    o2 19 (.same 18) 7 true,
    o2 20 (.idx (.t 19)) 7 true,
    o2 21 (.load 0 [] 2 (.t 20) 1 false) 7 true,
    o2 22 (.data .not [.t 21]) 7 true,
    ⟨false, [], [], .pick 17 (.t 22) (.c (.bool false)), [23], (some 23), none⟩]))
  (.cond (.t 23)
   .skip
   (.exit 0)))
  (.seq (.block 1 (.seq (.rg [o1 26 (.p0),
    ⟨false, [], [], .call 2 185 [.t 0] (.mp 0), [27, 0], (some 27), none⟩,
    o1 28 (.build [.i .i64, .i .i64] [(0, .t 27)]),
    ⟨false, [], [], .det 2 (.a (.c [.i .i64, .i .i64] [.int .i64 (0), .int .i64 (0)])), [6, 1000000001], (some 6), none⟩,
    o4 1 [6] (.store 6 [] 0 .nil (.t 28))])
  (.seq (.rg [o1 29 (.p0),
    ⟨false, [], [], .call 2 185 [.t 0] (.mp 0), [30, 0], (some 30), none⟩,
    o1 31 (.idx .nil),
    o4 1 [6] (.store 6 [] 1 (.t 31) (.t 30))])
  (.rg [⟨false, [], [], .det 2 (.copy 3), [32, 3], (some 32), none⟩,
    o1 33 (.load 6 [] 0 .nil 2 false),
    o1 34 (.sli [.i .i64, .i .i64] [.t 33]),
    ⟨false, [], [], .det 2 (.app (some 32) 34), [35, 32], (some 35), none⟩,
    ⟨false, [], [], .det 2 (.copy 35), [3, 35], (some 3), none⟩]))))
  (.rg [o1 24 (.copy 5),
    o1 25 (.data (.bin .add) [.t 24, .c (.int .i64 (1))]),
    o1 5 (.copy 25)])))))))
 (.seq (.rg [⟨false, [], [], .det 2 (.copy 3), [36, 3], (some 36), none⟩,
   ⟨false, [], [], .det 2 (.copy 36), [2, 36], (some 2), none⟩])
 .ret)))))
def s_sl09ReadEdges : Sig := ⟨[.mp [.d, .d, .d]], (.one false [.sl (.own none) [.d, .d]])⟩
noncomputable def E_sl09ReadEdges : TEnv := envOf [(184, p_sl09Var), (185, p_sl09One)]
noncomputable def f_sl09ReadEdges (n : Nat) : (ByteArray × Int × Bool) → Option ((List (Int × Int)) × ByteArray × Int × Bool) := runFn n E_sl09ReadEdges c_sl09ReadEdges [[.s, .i .i64, .b]] [.sl [.i .i64, .i .i64]] [.s, .i .i64, .b] [2] (.mp 0)
noncomputable def g_sl09ReadEdges := f_sl09ReadEdges BIG
noncomputable def p_sl09ReadEdges : TSp := ⟨s_sl09ReadEdges, [[.s, .i .i64, .b]], [.sl [.i .i64, .i .i64]], [.s, .i .i64, .b], Ou.j (.mp 0), g_sl09ReadEdges⟩
theorem k_sl09ReadEdges : chkW PG E_sl09ReadEdges 186 s_sl09ReadEdges (c_sl09ReadEdges.ht 37) (.mp 0) = some (c_sl09ReadEdges.wc E_sl09ReadEdges, [2]) := by kernel_rfl
theorem ok_sl09ReadEdges : p_sl09ReadEdges.Ok PG 186 := mkOk (env_cons ok_sl09Var (env_cons ok_sl09One (env_nil PG))) k_sl09ReadEdges (by kernel_rfl)
theorem e_sl09ReadEdges (n : Nat) (a0 : ByteArray × Int × Bool) : f_sl09ReadEdges n a0 =
  Option.bind (g_sl09Var a0) fun r0 =>
  Option.bind (loopT n (X := (ByteArray × Int × Bool) × (List (Int × Int)) × Int) (B := (ByteArray × Int × Bool) × (List (Int × Int))) (fun self2 x1 =>
    Option.bind (bif decide (x1.2.2 < r0.1) then
      bif decide (x1.2.2 < (100 : Int)) then
       some !x1.1.2.2
      else some false
     else some false : Option (Bool)) fun x3 =>
    bif x3 then
     Option.bind (g_sl09One x1.1) fun r4 =>
     Option.bind (g_sl09One r4.2) fun r5 =>
     bif decide (x1.2.1.length + ([(r4.1, r5.1)]).length ≤ 4294967296) then
      self2 (r5.2, x1.2.1 ++ ([(r4.1, r5.1)]), IntKind.wrap .i64 (x1.2.2 + (1 : Int)))
     else none
    else some (x1.1, x1.2.1)) (r0.2, [], (0 : Int)) : Option ((ByteArray × Int × Bool) × (List (Int × Int)))) fun x6 =>
  some (x6.2, x6.1) := by kernel_rfl
/- spec.EdgeOk -/
def c_sEdgeOk : TC :=
 (.seq (.rg [o1 3 (.a (.t 1)),
   o1 4 (.lit [.b] [.bool false])])
 (.seq (.join [⟨4, [.b], false⟩] 268435440 none (.rg [o1 5 (.copy 0),
   o3 6 163 [.t 5, .c [.i .i64] [.int .i64 (1)], .c [.i .i64] [.int .i64 (12)]],
   o1 7 (.copy 6),
   o2 8 (.idx .nil) 2 true,
   o2 9 (.load 3 [] 0 (.t 8) 1 false) 2 true,
   o2 10 (.copy 0) 2 true,
   o2 11 (.data (.bin .sub) [.t 10, .c (.int .i64 (1))]) 2 true,
   ⟨false, [], [], .call 1 163 [.t 9, .c [.i .i64] [.int .i64 (0)], .t 11] .no, [12], (some 12), some (2, true)⟩,
   ⟨false, [], [], .pick 7 (.t 12) (.c (.bool false)), [13], (some 13), none⟩,
   o1 14 (.copy 13),
   o2 15 (.idx .nil) 9 true,
   o2 16 (.load 3 [] 1 (.t 15) 1 false) 9 true,
   o2 17 (.copy 0) 9 true,
   o2 18 (.data (.bin .sub) [.t 17, .c (.int .i64 (1))]) 9 true,
   ⟨false, [], [], .call 1 163 [.t 16, .c [.i .i64] [.int .i64 (0)], .t 18] .no, [19], (some 19), some (9, true)⟩,
   ⟨false, [], [], .pick 14 (.t 19) (.c (.bool false)), [20], (some 20), none⟩,
   o1 21 (.copy 20),
   o2 22 (.idx .nil) 16 true,
   o2 23 (.load 3 [] 0 (.t 22) 1 false) 16 true,
   o2 24 (.idx .nil) 16 true,
   o2 25 (.load 3 [] 1 (.t 24) 1 false) 16 true,
   o2 26 (.data (.bin .lss) [.t 23, .t 25]) 16 true,
   ⟨false, [], [], .pick 21 (.t 26) (.c (.bool false)), [27], (some 27), none⟩,
   o1 4 (.copy 27)]))
 .ret))
def s_sEdgeOk : Sig := ⟨[.rd false [.d], .rd true [.d, .d]], (.one false [.d])⟩
noncomputable def E_sEdgeOk : TEnv := envOf [(163, p_sl01In)]
noncomputable def f_sEdgeOk (n : Nat) : Int × (Int × Int) → Option ((Bool) × Unit) := runFn n E_sEdgeOk c_sEdgeOk [[.i .i64], [.i .i64, .i .i64]] [.b] [] [4] .no
noncomputable def g_sEdgeOk := f_sEdgeOk BIG
noncomputable def p_sEdgeOk : TSp := ⟨s_sEdgeOk, [[.i .i64], [.i .i64, .i .i64]], [.b], [], Ou.j .no, g_sEdgeOk⟩
theorem k_sEdgeOk : chkW PG E_sEdgeOk 167 s_sEdgeOk (c_sEdgeOk.ht 28) .no = some (c_sEdgeOk.wc E_sEdgeOk, [4]) := by kernel_rfl
theorem ok_sEdgeOk : p_sEdgeOk.Ok PG 167 := mkOk (env_cons ok_sl01In (env_nil PG)) k_sEdgeOk (by kernel_rfl)
theorem e_sEdgeOk (n : Nat) (a0 : Int) (a1 : Int × Int) : f_sEdgeOk n (a0, a1) =
  Option.bind (Option.bind (g_sl01In (a0, (1 : Int), (12 : Int))) fun r0 =>
   bif r0.1 then
    Option.bind (g_sl01In (a1.1, (0 : Int), IntKind.wrap .i64 (a0 - (1 : Int)))) fun r1 =>
    bif r1.1 then
     Option.bind (g_sl01In (a1.2, (0 : Int), IntKind.wrap .i64 (a0 - (1 : Int)))) fun r2 =>
     bif r2.1 then
      some (decide (a1.1 < a1.2))
     else some false
    else some false
   else some false : Option (Bool)) fun x3 =>
  some (x3, ()) := by kernel_rfl
/- spec.l05Less -/
def c_sl05Less : TC :=
 (.seq (.rg [o1 2 (.a (.t 0)),
   o1 3 (.a (.t 1)),
   o1 4 (.lit [.b] [.bool false])])
 (.seq (.join [⟨4, [.b], false⟩] 16777200 none (.rg [o1 5 (.idx .nil),
   o1 6 (.load 2 [] 0 (.t 5) 1 false),
   o1 7 (.idx .nil),
   o1 8 (.load 3 [] 0 (.t 7) 1 false),
   o1 9 (.data (.bin .lss) [.t 6, .t 8]),
   o1 10 (.copy 9),
   o2 11 (.idx .nil) 5 false,
   o2 12 (.load 2 [] 0 (.t 11) 1 false) 5 false,
   o2 13 (.idx .nil) 5 false,
   o2 14 (.load 3 [] 0 (.t 13) 1 false) 5 false,
   o2 15 (.data (.bin .eql) [.t 12, .t 14]) 5 false,
   o2 16 (.copy 15) 5 false,
   o2 17 (.idx .nil) 11 true,
   o2 18 (.load 2 [] 1 (.t 17) 1 false) 11 true,
   o2 19 (.idx .nil) 11 true,
   o2 20 (.load 3 [] 1 (.t 19) 1 false) 11 true,
   o2 21 (.data (.bin .lss) [.t 18, .t 20]) 11 true,
   ⟨false, [], [], .pick 16 (.t 21) (.c (.bool false)), [22], (some 22), some (5, false)⟩,
   ⟨false, [], [], .pick 10 (.c (.bool true)) (.t 22), [23], (some 23), none⟩,
   o1 4 (.copy 23)]))
 .ret))
def s_sl05Less : Sig := ⟨[.rd true [.d, .d], .rd true [.d, .d]], (.one false [.d])⟩
noncomputable def E_sl05Less : TEnv := envOf []
noncomputable def f_sl05Less (n : Nat) : (Int × Int) × (Int × Int) → Option ((Bool) × Unit) := runFn n E_sl05Less c_sl05Less [[.i .i64, .i .i64], [.i .i64, .i .i64]] [.b] [] [4] .no
noncomputable def g_sl05Less := f_sl05Less BIG
noncomputable def p_sl05Less : TSp := ⟨s_sl05Less, [[.i .i64, .i .i64], [.i .i64, .i .i64]], [.b], [], Ou.j .no, g_sl05Less⟩
theorem k_sl05Less : chkW PG E_sl05Less 317 s_sl05Less (c_sl05Less.ht 24) .no = some (c_sl05Less.wc E_sl05Less, [4]) := by kernel_rfl
theorem ok_sl05Less : p_sl05Less.Ok PG 317 := mkOk (env_nil PG) k_sl05Less (by kernel_rfl)
theorem e_sl05Less (n : Nat) (a0 : Int × Int) (a1 : Int × Int) : f_sl05Less n (a0, a1) =
  Option.bind (bif decide (a0.1 < a1.1) then
    some true
   else bif decide (a0.1 = a1.1) then
    some (decide (a0.2 < a1.2))
   else some false : Option (Bool)) fun x0 =>
  some (x0, ()) := by kernel_rfl
/- spec.l05Edges -/
def c_sl05Edges : TC :=
 (.seq (.rg [o1 4 (.lit [.b] [.bool false])])
 (.seq (.join [] 68719476720 (some [⟨4, [.b], false⟩]) (.seq (.rg [o1 5 (.lit [.i .i64] [.int .i64 (0)])])
 (.block 0 (.loop [⟨5, [.i .i64], false⟩] 68719476720
  (.seq (.seq (.rg [o1 6 (.copy 5),
    o1 7 (.copy 1),
    o1 8 (.len 7),
    o1 9 (.data (.bin .lss) [.t 6, .t 8])])
  (.cond (.t 9)
   .skip
   (.exit 0)))
  (.seq (.join [] 68719472656 (some [⟨4, [.b], false⟩]) (.block 1 (.seq (.join [⟨35, [.b], false⟩] 68719472640 none (.rg [o1 12 (.copy 0),
    o1 13 (.copy 1),
    o1 14 (.copy 5),
    o1 15 (.index 13 (.t 14)),
    o1 16 (.load 13 [(0, 2)] 0 (.t 15) 2 false),
    o3 17 167 [.t 12, .t 16],
    o1 18 (.data .not [.t 17]),
    o1 19 (.copy 18),
    o2 20 (.copy 5) 7 false,
    o2 21 (.data (.bin .gtr) [.t 20, .c (.int .i64 (0))]) 7 false,
    o2 22 (.copy 21) 7 false,
    o2 23 (.copy 1) 10 true,
    o2 24 (.copy 5) 10 true,
    o2 25 (.data (.bin .sub) [.t 24, .c (.int .i64 (1))]) 10 true,
    o2 26 (.index 23 (.t 25)) 10 true,
    o2 27 (.load 23 [(0, 2)] 0 (.t 26) 2 false) 10 true,
    o2 28 (.copy 1) 10 true,
    o2 29 (.copy 5) 10 true,
    o2 30 (.index 28 (.t 29)) 10 true,
    o2 31 (.load 28 [(0, 2)] 0 (.t 30) 2 false) 10 true,
    ⟨false, [], [], .call 1 317 [.t 27, .t 31] .no, [32], (some 32), some (10, true)⟩,
    o2 33 (.data .not [.t 32]) 10 true,
    ⟨false, [], [], .pick 22 (.t 33) (.c (.bool false)), [34], (some 34), some (7, false)⟩,
    ⟨false, [], [], .pick 19 (.c (.bool true)) (.t 34), [35], (some 35), none⟩]))
  (.cond (.t 35)
   (.seq (.rg [o1 4 (.lit [.b] [.bool false])])
   .ret)
   .skip))))
  (.rg [o1 10 (.copy 5),
    o1 11 (.data (.bin .add) [.t 10, .c (.int .i64 (1))]),
    o1 5 (.copy 11)])))))))
 (.seq (.rg [o1 36 (.copy 1),
   o1 37 (.len 36),
   o1 38 (.data (.bin .leq) [.t 37, .c (.int .i64 (66))]),
   o1 4 (.copy 38)])
 .ret)))
def s_sl05Edges : Sig := ⟨[.rd false [.d], .rd false [.sl (.own none) [.d, .d]]], (.one false [.d])⟩
noncomputable def E_sl05Edges : TEnv := envOf [(167, p_sEdgeOk), (317, p_sl05Less)]
noncomputable def f_sl05Edges (n : Nat) : Int × (List (Int × Int)) → Option ((Bool) × Unit) := runFn n E_sl05Edges c_sl05Edges [[.i .i64], [.sl [.i .i64, .i .i64]]] [.b] [] [4] .no
noncomputable def g_sl05Edges := f_sl05Edges BIG
noncomputable def p_sl05Edges : TSp := ⟨s_sl05Edges, [[.i .i64], [.sl [.i .i64, .i .i64]]], [.b], [], Ou.j .no, g_sl05Edges⟩
theorem k_sl05Edges : chkW PG E_sl05Edges 228 s_sl05Edges (c_sl05Edges.ht 39) .no = some (c_sl05Edges.wc E_sl05Edges, [4]) := by kernel_rfl
theorem ok_sl05Edges : p_sl05Edges.Ok PG 228 := mkOk (env_cons ok_sEdgeOk (env_cons ok_sl05Less (env_nil PG))) k_sl05Edges (by kernel_rfl)
theorem e_sl05Edges (n : Nat) (a0 : Int) (a1 : List (Int × Int)) : f_sl05Edges n (a0, a1) =
  Option.bind (loopT n (X := Int) (B := (Unit) ⊕ (Bool)) (fun self1 x0 =>
    bif decide (x0 < (a1.length : Int)) then
     Option.bind (Option.bind (bnd a1.length x0 fun n2 =>
       Option.bind a1[n2]? fun y3 =>
       Option.bind (g_sEdgeOk (a0, y3)) fun r4 =>
       bif !r4.1 then
        some true
       else bif decide ((0 : Int) < x0) then
        bnd a1.length (IntKind.wrap .i64 (x0 - (1 : Int))) fun n5 =>
        Option.bind a1[n5]? fun y6 =>
        bnd a1.length x0 fun n7 =>
        Option.bind a1[n7]? fun y8 =>
        Option.bind (g_sl05Less (y6, y8)) fun r9 =>
        some !r9.1
       else some false : Option (Bool)) fun x10 =>
      bif x10 then
       some (Sum.inr false)
      else some (Sum.inl ()) : Option ((Unit) ⊕ (Bool))) fun y => match y with
     | .inl x11 =>
      self1 (IntKind.wrap .i64 (x0 + (1 : Int)))
     | .inr x11 =>
      some (Sum.inr x11)
    else some (Sum.inl ())) (0 : Int) : Option ((Unit) ⊕ (Bool))) fun y => match y with
  | .inl x12 =>
   some (decide ((a1.length : Int) ≤ (66 : Int)), ())
  | .inr x12 =>
   some (x12, ()) := by kernel_rfl
/- spec.l09Labels -/
def c_sl09Labels : TC :=
 (.seq (.rg [o1 4 (.lit [.b] [.bool false])])
 (.seq (.seq (.rg [o1 6 (.copy 1),
   o1 7 (.len 6),
   o1 8 (.copy 0),
   o1 9 (.data (.bin .neq) [.t 7, .t 8])])
 (.cond (.t 9)
  (.seq (.rg [o1 4 (.lit [.b] [.bool false])])
  .ret)
  .skip))
 (.seq (.join [] 68719475760 (some [⟨4, [.b], false⟩]) (.seq (.rg [o1 5 (.lit [.i .i64] [.int .i64 (0)])])
 (.block 0 (.loop [⟨5, [.i .i64], false⟩] 68719475760
  (.seq (.seq (.rg [o1 10 (.copy 5),
    o1 11 (.copy 0),
    o1 12 (.data (.bin .lss) [.t 10, .t 11])])
  (.cond (.t 12)
   .skip
   (.exit 0)))
  (.seq (.join [] 68719443984 (some [⟨4, [.b], false⟩]) (.block 1 (.seq (.join [⟨35, [.b], false⟩] 68719443968 none (.rg [o1 15 (.copy 1),
    o1 16 (.copy 5),
    o1 17 (.index 15 (.t 16)),
    o1 18 (.load 15 [(0, 1)] 0 (.t 17) 1 false),
    o1 19 (.copy 5),
    o3 20 163 [.t 18, .c [.i .i64] [.int .i64 (0)], .t 19],
    o1 21 (.data .not [.t 20]),
    o1 22 (.copy 21),
    o2 23 (.copy 1) 7 false,
    o2 24 (.copy 1) 7 false,
    o2 25 (.copy 5) 7 false,
    o2 26 (.index 24 (.t 25)) 7 false,
    o2 27 (.load 24 [(0, 1)] 0 (.t 26) 1 false) 7 false,
    o2 28 (.index 23 (.t 27)) 7 false,
    o2 29 (.load 23 [(0, 1)] 0 (.t 28) 1 false) 7 false,
    o2 30 (.copy 1) 7 false,
    o2 31 (.copy 5) 7 false,
    o2 32 (.index 30 (.t 31)) 7 false,
    o2 33 (.load 30 [(0, 1)] 0 (.t 32) 1 false) 7 false,
    o2 34 (.data (.bin .neq) [.t 29, .t 33]) 7 false,
    ⟨false, [], [], .pick 22 (.c (.bool true)) (.t 34), [35], (some 35), none⟩]))
  (.cond (.t 35)
   (.seq (.rg [o1 4 (.lit [.b] [.bool false])])
   .ret)
   .skip))))
  (.rg [o1 13 (.copy 5),
    o1 14 (.data (.bin .add) [.t 13, .c (.int .i64 (1))]),
    o1 5 (.copy 14)])))))))
 (.seq (.rg [o1 4 (.lit [.b] [.bool true])])
 .ret))))
def s_sl09Labels : Sig := ⟨[.rd false [.d], .rd false [.sl (.own none) [.d]]], (.one false [.d])⟩
noncomputable def E_sl09Labels : TEnv := envOf [(163, p_sl01In)]
noncomputable def f_sl09Labels (n : Nat) : Int × List (Int) → Option ((Bool) × Unit) := runFn n E_sl09Labels c_sl09Labels [[.i .i64], [.sl [.i .i64]]] [.b] [] [4] .no
noncomputable def g_sl09Labels := f_sl09Labels BIG
noncomputable def p_sl09Labels : TSp := ⟨s_sl09Labels, [[.i .i64], [.sl [.i .i64]]], [.b], [], Ou.j .no, g_sl09Labels⟩
theorem k_sl09Labels : chkW PG E_sl09Labels 240 s_sl09Labels (c_sl09Labels.ht 36) .no = some (c_sl09Labels.wc E_sl09Labels, [4]) := by kernel_rfl
theorem ok_sl09Labels : p_sl09Labels.Ok PG 240 := mkOk (env_cons ok_sl01In (env_nil PG)) k_sl09Labels (by kernel_rfl)
theorem e_sl09Labels (n : Nat) (a0 : Int) (a1 : List (Int)) : f_sl09Labels n (a0, a1) =
  bif !decide ((a1.length : Int) = a0) then
   some (false, ())
  else Option.bind (loopT n (X := Int) (B := (Unit) ⊕ (Bool)) (fun self1 x0 =>
    bif decide (x0 < a0) then
     Option.bind (Option.bind (bnd a1.length x0 fun n2 =>
       Option.bind a1[n2]? fun y3 =>
       Option.bind (g_sl01In (y3, (0 : Int), x0)) fun r4 =>
       bif !r4.1 then
        some true
       else bnd a1.length x0 fun n5 =>
       Option.bind a1[n5]? fun y6 =>
       bnd a1.length y6 fun n7 =>
       Option.bind a1[n7]? fun y8 =>
       bnd a1.length x0 fun n9 =>
       Option.bind a1[n9]? fun y10 =>
       some (!decide (y8 = y10)) : Option (Bool)) fun x11 =>
      bif x11 then
       some (Sum.inr false)
      else some (Sum.inl ()) : Option ((Unit) ⊕ (Bool))) fun y => match y with
     | .inl x12 =>
      self1 (IntKind.wrap .i64 (x0 + (1 : Int)))
     | .inr x12 =>
      some (Sum.inr x12)
    else some (Sum.inl ())) (0 : Int) : Option ((Unit) ⊕ (Bool))) fun y => match y with
  | .inl x13 =>
   some (true, ())
  | .inr x13 =>
   some (x13, ()) := by kernel_rfl
/- spec.AnswerOk -/
def c_sAnswerOk : TC :=
 (.seq (.rg [o1 3 (.a (.t 1)),
   o1 4 (.lit [.b] [.bool false])])
 (.seq (.join [⟨4, [.b], false⟩] 16777200 none (.rg [o1 5 (.copy 0),
   o3 6 163 [.t 5, .c [.i .i64] [.int .i64 (1)], .c [.i .i64] [.int .i64 (12)]],
   o1 7 (.copy 6),
   o2 8 (.idx .nil) 2 true,
   o2 9 (.load 3 [] 0 (.t 8) 1 false) 2 true,
   ⟨false, [], [], .call 1 163 [.t 9, .c [.i .i64] [.int .i64 (1)], .c [.i .i64] [.int .i64 (100000)]] .no, [10], (some 10), some (2, true)⟩,
   ⟨false, [], [], .pick 7 (.t 10) (.c (.bool false)), [11], (some 11), none⟩,
   o1 12 (.copy 11),
   o2 13 (.copy 0) 7 true,
   o2 14 (.idx .nil) 7 true,
   o2 15 (.load 3 [] 2 (.t 14) 1 false) 7 true,
   ⟨false, [], [], .call 1 228 [.t 13, .t 15] .no, [16], (some 16), some (7, true)⟩,
   ⟨false, [], [], .pick 12 (.t 16) (.c (.bool false)), [17], (some 17), none⟩,
   o1 18 (.copy 17),
   o2 19 (.copy 0) 13 true,
   o2 20 (.idx .nil) 13 true,
   o2 21 (.load 3 [] 3 (.t 20) 1 false) 13 true,
   ⟨false, [], [], .call 1 240 [.t 19, .t 21] .no, [22], (some 22), some (13, true)⟩,
   ⟨false, [], [], .pick 18 (.t 22) (.c (.bool false)), [23], (some 23), none⟩,
   o1 4 (.copy 23)]))
 .ret))
def s_sAnswerOk : Sig := ⟨[.rd false [.d], .rd true [.d, .d, .sl (.own none) [.d, .d], .sl (.own none) [.d]]], (.one false [.d])⟩
noncomputable def E_sAnswerOk : TEnv := envOf [(163, p_sl01In), (228, p_sl05Edges), (240, p_sl09Labels)]
noncomputable def f_sAnswerOk (n : Nat) : Int × (Int × Bool × List (Int × Int) × List (Int)) → Option ((Bool) × Unit) := runFn n E_sAnswerOk c_sAnswerOk [[.i .i64], [.i .i64, .b, .sl [.i .i64, .i .i64], .sl [.i .i64]]] [.b] [] [4] .no
noncomputable def g_sAnswerOk := f_sAnswerOk BIG
noncomputable def p_sAnswerOk : TSp := ⟨s_sAnswerOk, [[.i .i64], [.i .i64, .b, .sl [.i .i64, .i .i64], .sl [.i .i64]]], [.b], [], Ou.j .no, g_sAnswerOk⟩
theorem k_sAnswerOk : chkW PG E_sAnswerOk 120 s_sAnswerOk (c_sAnswerOk.ht 24) .no = some (c_sAnswerOk.wc E_sAnswerOk, [4]) := by kernel_rfl
theorem ok_sAnswerOk : p_sAnswerOk.Ok PG 120 := mkOk (env_cons ok_sl01In (env_cons ok_sl05Edges (env_cons ok_sl09Labels (env_nil PG)))) k_sAnswerOk (by kernel_rfl)
theorem e_sAnswerOk (n : Nat) (a0 : Int) (a1 : Int × Bool × List (Int × Int) × List (Int)) : f_sAnswerOk n (a0, a1) =
  Option.bind (Option.bind (g_sl01In (a0, (1 : Int), (12 : Int))) fun r0 =>
   bif r0.1 then
    Option.bind (g_sl01In (a1.1, (1 : Int), (100000 : Int))) fun r1 =>
    bif r1.1 then
     Option.bind (g_sl05Edges (a0, a1.2.2.1)) fun r2 =>
     bif r2.1 then
      Option.bind (g_sl09Labels (a0, a1.2.2.2)) fun r3 =>
      some r3.1
     else some false
    else some false
   else some false : Option (Bool)) fun x4 =>
  some (x4, ()) := by kernel_rfl
/- spec.l09Flag -/
def c_sl09Flag : TC :=
 (.seq (.rg [o1 2 (.lit [.s] [.string ⟨#[]⟩])])
 (.seq (.seq (.rg [o1 3 (.copy 0)])
 (.cond (.t 3)
  (.seq (.rg [o1 2 (.lit [.s] [.string ⟨#[1]⟩])])
  .ret)
  .skip))
 (.seq (.rg [o1 2 (.lit [.s] [.string ⟨#[0]⟩])])
 .ret)))
def s_sl09Flag : Sig := ⟨[.rd false [.d]], (.one false [.d])⟩
noncomputable def E_sl09Flag : TEnv := envOf []
noncomputable def f_sl09Flag (n : Nat) : Bool → Option ((ByteArray) × Unit) := runFn n E_sl09Flag c_sl09Flag [[.b]] [.s] [] [2] .no
noncomputable def g_sl09Flag := f_sl09Flag BIG
noncomputable def p_sl09Flag : TSp := ⟨s_sl09Flag, [[.b]], [.s], [], Ou.j .no, g_sl09Flag⟩
theorem k_sl09Flag : chkW PG E_sl09Flag 306 s_sl09Flag (c_sl09Flag.ht 4) .no = some (c_sl09Flag.wc E_sl09Flag, [2]) := by kernel_rfl
theorem ok_sl09Flag : p_sl09Flag.Ok PG 306 := mkOk (env_nil PG) k_sl09Flag (by kernel_rfl)
theorem e_sl09Flag (n : Nat) (a0 : Bool) : f_sl09Flag n a0 =
  bif a0 then
   some ((ByteArray.mk #[1]), ())
  else some ((ByteArray.mk #[0]), ()) := by kernel_rfl
/- spec.l09Byte -/
def c_sl09Byte : TC :=
 (.seq (.rg [o1 2 (.lit [.s] [.string ⟨#[]⟩])])
 (.seq (.rg [o1 3 (.copy 0),
   o1 4 (.data (.conv .u8) [.t 3]),
   o1 5 (.sli [.i .u8] [.t 4]),
   o1 6 (.bytes 5),
   o1 2 (.copy 6)])
 .ret))
def s_sl09Byte : Sig := ⟨[.rd false [.d]], (.one false [.d])⟩
noncomputable def E_sl09Byte : TEnv := envOf []
noncomputable def f_sl09Byte (n : Nat) : Int → Option ((ByteArray) × Unit) := runFn n E_sl09Byte c_sl09Byte [[.i .i64]] [.s] [] [2] .no
noncomputable def g_sl09Byte := f_sl09Byte BIG
noncomputable def p_sl09Byte : TSp := ⟨s_sl09Byte, [[.i .i64]], [.s], [], Ou.j .no, g_sl09Byte⟩
theorem k_sl09Byte : chkW PG E_sl09Byte 301 s_sl09Byte (c_sl09Byte.ht 7) .no = some (c_sl09Byte.wc E_sl09Byte, [2]) := by kernel_rfl
theorem ok_sl09Byte : p_sl09Byte.Ok PG 301 := mkOk (env_nil PG) k_sl09Byte (by kernel_rfl)
theorem e_sl09Byte (n : Nat) (a0 : Int) : f_sl09Byte n a0 =
  some (bytesStr ([IntKind.wrap .u8 (a0)]), ()) := by kernel_rfl
/- spec.l09Edges -/
def c_sl09Edges : TC :=
 (.seq (.rg [o1 2 (.lit [.s] [.string ⟨#[]⟩])])
 (.seq (.rg [o1 5 (.copy 0),
   o1 6 (.len 5),
   o3 7 232 [.t 6],
   o1 3 (.copy 7)])
 (.seq (.join [⟨3, [.s], false⟩] 536870680 none (.seq (.rg [o1 4 (.lit [.i .i64] [.int .i64 (0)])])
 (.block 0 (.loop [⟨3, [.s], false⟩, ⟨4, [.i .i64], false⟩] 536870680
  (.seq (.seq (.rg [o1 8 (.copy 4),
    o1 9 (.copy 0),
    o1 10 (.len 9),
    o1 11 (.data (.bin .lss) [.t 8, .t 10])])
  (.cond (.t 11)
   .skip
   (.exit 0)))
  (.seq (.block 1 (.rg [o1 14 (.copy 3),
    o1 15 (.copy 0),
    o1 16 (.copy 4),
    o1 17 (.index 15 (.t 16)),
    o1 18 (.idx (.t 17)),
    o1 19 (.load 15 [(0, 2)] 0 (.t 18) 1 false),
    o3 20 301 [.t 19],
    o1 21 (.data (.bin .add) [.t 14, .t 20]),
    o1 22 (.copy 0),
    o1 23 (.copy 4),
    o1 24 (.index 22 (.t 23)),
    o1 25 (.idx (.t 24)),
    o1 26 (.load 22 [(0, 2)] 1 (.t 25) 1 false),
    o3 27 301 [.t 26],
    o1 28 (.data (.bin .add) [.t 21, .t 27]),
    o1 3 (.copy 28)]))
  (.rg [o1 12 (.copy 4),
    o1 13 (.data (.bin .add) [.t 12, .c (.int .i64 (1))]),
    o1 4 (.copy 13)])))))))
 (.seq (.rg [o1 29 (.copy 3),
   o1 2 (.copy 29)])
 .ret))))
def s_sl09Edges : Sig := ⟨[.rd false [.sl (.own none) [.d, .d]]], (.one false [.d])⟩
noncomputable def E_sl09Edges : TEnv := envOf [(232, p_sl01Var), (301, p_sl09Byte)]
noncomputable def f_sl09Edges (n : Nat) : (List (Int × Int)) → Option ((ByteArray) × Unit) := runFn n E_sl09Edges c_sl09Edges [[.sl [.i .i64, .i .i64]]] [.s] [] [2] .no
noncomputable def g_sl09Edges := f_sl09Edges BIG
noncomputable def p_sl09Edges : TSp := ⟨s_sl09Edges, [[.sl [.i .i64, .i .i64]]], [.s], [], Ou.j .no, g_sl09Edges⟩
theorem k_sl09Edges : chkW PG E_sl09Edges 302 s_sl09Edges (c_sl09Edges.ht 30) .no = some (c_sl09Edges.wc E_sl09Edges, [2]) := by kernel_rfl
theorem ok_sl09Edges : p_sl09Edges.Ok PG 302 := mkOk (env_cons ok_sl01Var (env_cons ok_sl09Byte (env_nil PG))) k_sl09Edges (by kernel_rfl)
theorem e_sl09Edges (n : Nat) (a0 : List (Int × Int)) : f_sl09Edges n a0 =
  Option.bind (g_sl01Var (a0.length : Int)) fun r0 =>
  Option.bind (loopT n (X := ByteArray × Int) (B := ByteArray) (fun self2 x1 =>
    bif decide (x1.2 < (a0.length : Int)) then
     bnd a0.length x1.2 fun n3 =>
     Option.bind a0[n3]? fun y4 =>
     Option.bind (g_sl09Byte y4.1) fun r5 =>
     bif decide (x1.1.size + r5.1.size ≤ 4611686018427387904) then
      bnd a0.length x1.2 fun n6 =>
      Option.bind a0[n6]? fun y7 =>
      Option.bind (g_sl09Byte y7.2) fun r8 =>
      bif decide ((x1.1 ++ r5.1).size + r8.1.size ≤ 4611686018427387904) then
       self2 ((x1.1 ++ r5.1) ++ r8.1, IntKind.wrap .i64 (x1.2 + (1 : Int)))
      else none
     else none
    else some x1.1) (r0.1, (0 : Int)) : Option (ByteArray)) fun x9 =>
  some (x9, ()) := by kernel_rfl
/- spec.AnswerText -/
def c_sAnswerText : TC :=
 (.seq (.rg [o1 3 (.a (.t 1)),
   o1 4 (.lit [.s] [.string ⟨#[]⟩]),
   o1 5 (.lit [.b] [.bool false])])
 (.seq (.seq (.rg [o1 8 (.copy 0),
   o1 9 (.load 3 [] 0 .nil 4 false),
   o3 10 120 [.t 8, .t 9],
   o1 11 (.data .not [.t 10])])
 (.cond (.t 11)
  (.seq (.rg [o1 4 (.lit [.s] [.string ⟨#[]⟩]),
    o1 5 (.lit [.b] [.bool false])])
  .ret)
  .skip))
 (.seq (.rg [o1 12 (.idx .nil),
   o1 13 (.load 3 [] 0 (.t 12) 1 false),
   o3 14 232 [.t 13],
   o1 15 (.idx .nil),
   o1 16 (.load 3 [] 1 (.t 15) 1 false),
   o3 17 306 [.t 16],
   o1 18 (.data (.bin .add) [.t 14, .t 17]),
   o1 19 (.idx .nil),
   o1 20 (.load 3 [] 2 (.t 19) 1 false),
   o3 21 302 [.t 20],
   o1 22 (.data (.bin .add) [.t 18, .t 21]),
   o1 6 (.copy 22)])
 (.seq (.join [⟨6, [.s], false⟩] 68711088320 none (.seq (.rg [o1 7 (.lit [.i .i64] [.int .i64 (0)])])
 (.block 0 (.loop [⟨6, [.s], false⟩, ⟨7, [.i .i64], false⟩] 68711088320
  (.seq (.seq (.rg [o1 23 (.copy 7),
    o1 24 (.copy 0),
    o1 25 (.data (.bin .lss) [.t 23, .t 24])])
  (.cond (.t 25)
   .skip
   (.exit 0)))
  (.seq (.block 1 (.rg [o1 28 (.copy 6),
    o1 29 (.idx .nil),
    o1 30 (.load 3 [] 3 (.t 29) 1 false),
    o1 31 (.copy 7),
    o1 32 (.index 30 (.t 31)),
    o1 33 (.load 30 [(0, 1)] 0 (.t 32) 1 false),
    o3 34 301 [.t 33],
    o1 35 (.data (.bin .add) [.t 28, .t 34]),
    o1 6 (.copy 35)]))
  (.rg [o1 26 (.copy 7),
    o1 27 (.data (.bin .add) [.t 26, .c (.int .i64 (1))]),
    o1 7 (.copy 27)])))))))
 (.seq (.rg [o1 36 (.copy 6),
   o1 4 (.copy 36),
   o1 5 (.lit [.b] [.bool true])])
 .ret)))))
def s_sAnswerText : Sig := ⟨[.rd false [.d], .rd true [.d, .d, .sl (.own none) [.d, .d], .sl (.own none) [.d]]], (.tup [(false, 1), (false, 1)] [.d, .d])⟩
noncomputable def E_sAnswerText : TEnv := envOf [(120, p_sAnswerOk), (232, p_sl01Var), (306, p_sl09Flag), (302, p_sl09Edges), (301, p_sl09Byte)]
noncomputable def f_sAnswerText (n : Nat) : Int × (Int × Bool × List (Int × Int) × List (Int)) → Option ((ByteArray × Bool) × Unit) := runFn n E_sAnswerText c_sAnswerText [[.i .i64], [.i .i64, .b, .sl [.i .i64, .i .i64], .sl [.i .i64]]] [.s, .b] [] [4, 5] .no
noncomputable def g_sAnswerText := f_sAnswerText BIG
noncomputable def p_sAnswerText : TSp := ⟨s_sAnswerText, [[.i .i64], [.i .i64, .b, .sl [.i .i64, .i .i64], .sl [.i .i64]]], [.s, .b], [], Ou.j .no, g_sAnswerText⟩
theorem k_sAnswerText : chkW PG E_sAnswerText 202 s_sAnswerText (c_sAnswerText.ht 37) .no = some (c_sAnswerText.wc E_sAnswerText, [4, 5]) := by kernel_rfl
theorem ok_sAnswerText : p_sAnswerText.Ok PG 202 := mkOk (env_cons ok_sAnswerOk (env_cons ok_sl01Var (env_cons ok_sl09Flag (env_cons ok_sl09Edges (env_cons ok_sl09Byte (env_nil PG)))))) k_sAnswerText (by kernel_rfl)
theorem e_sAnswerText (n : Nat) (a0 : Int) (a1 : Int × Bool × List (Int × Int) × List (Int)) : f_sAnswerText n (a0, a1) =
  Option.bind (g_sAnswerOk (a0, a1)) fun r0 =>
  bif !r0.1 then
   some (((ByteArray.mk #[]), false), ())
  else Option.bind (g_sl01Var a1.1) fun r1 =>
  Option.bind (g_sl09Flag a1.2.1) fun r2 =>
  bif decide (r1.1.size + r2.1.size ≤ 4611686018427387904) then
   Option.bind (g_sl09Edges a1.2.2.1) fun r3 =>
   bif decide ((r1.1 ++ r2.1).size + r3.1.size ≤ 4611686018427387904) then
    Option.bind (loopT n (X := ByteArray × Int) (B := ByteArray) (fun self5 x4 =>
      bif decide (x4.2 < a0) then
       bnd a1.2.2.2.length x4.2 fun n6 =>
       Option.bind a1.2.2.2[n6]? fun y7 =>
       Option.bind (g_sl09Byte y7) fun r8 =>
       bif decide (x4.1.size + r8.1.size ≤ 4611686018427387904) then
        self5 (x4.1 ++ r8.1, IntKind.wrap .i64 (x4.2 + (1 : Int)))
       else none
      else some x4.1) ((r1.1 ++ r2.1) ++ r3.1, (0 : Int)) : Option (ByteArray)) fun x9 =>
    some ((x9, true), ())
   else none
  else none := by kernel_rfl
/- spec.ReadAnswer -/
def c_sReadAnswer : TC :=
 (.seq (.rg [⟨false, [], [], .det 2 (.a (.c [.i .i64, .b, .sl [.i .i64, .i .i64], .sl [.i .i64]] [.int .i64 (0), .bool false, .slice none 0 0, .slice none 0 0])), [4, 1000000001], (some 4), none⟩,
   o1 5 (.lit [.b] [.bool false])])
 (.seq (.rg [o1 11 (.copy 1),
   o1 12 (.build [.s, .i .i64, .b] [(0, .t 11)]),
   o1 13 (.a (.t 12)),
   o1 6 (.p0)])
 (.seq (.rg [o1 14 (.same 6),
   ⟨false, [], [], .call 2 184 [.t 13] (.mp 0), [15, 13], (some 15), none⟩,
   o1 16 (.build [.i .i64, .b, .sl [.i .i64, .i .i64], .sl [.i .i64]] [(0, .t 15)]),
   ⟨false, [], [], .det 2 (.a (.c [.i .i64, .b, .sl [.i .i64, .i .i64], .sl [.i .i64]] [.int .i64 (0), .bool false, .slice none 0 0, .slice none 0 0])), [7, 1000000001], (some 7), none⟩,
   o4 2 [7, 16] (.store 7 [] 0 .nil (.t 16))])
 (.seq (.rg [o1 17 (.same 6),
   ⟨false, [], [], .call 2 185 [.t 13] (.mp 0), [18, 13], (some 18), none⟩,
   o1 19 (.data (.bin .eql) [.t 18, .c (.int .i64 (1))]),
   o1 20 (.idx .nil),
   o4 1 [7] (.store 7 [] 1 (.t 20) (.t 19))])
 (.seq (.rg [o1 21 (.same 6),
   ⟨false, [], [], .call 2 186 [.t 13] (.mp 0), [22, 13], (some 22), none⟩,
   o1 23 (.idx .nil),
   o4 2 [7, 22] (.store 7 [] 2 (.t 23) (.t 22))])
 (.seq (.join [⟨13, [.s, .i .i64, .b], false⟩, ⟨7, [.i .i64, .b, .sl [.i .i64, .i .i64], .sl [.i .i64]], false⟩] 140737471586688 none (.seq (.rg [o1 8 (.lit [.i .i64] [.int .i64 (0)])])
 (.block 0 (.loop [⟨13, [.s, .i .i64, .b], false⟩, ⟨7, [.i .i64, .b, .sl [.i .i64, .i .i64], .sl [.i .i64]], false⟩, ⟨8, [.i .i64], false⟩] 140737471586688
  (.seq (.seq (.join [⟨37, [.b], false⟩] 274861129728 none (.rg [o1 24 (.copy 8),
    o1 25 (.copy 0),
    o1 26 (.data (.bin .lss) [.t 24, .t 25]),
    o1 27 (.copy 26),
    o2 28 (.copy 8) 3 true,
    o2 29 (.data (.bin .lss) [.t 28, .c (.int .i64 (12))]) 3 true,
    ⟨false, [], [], .pick 27 (.t 29) (.c (.bool false)), [30], (some 30), none⟩,
    o1 31 (.copy 30),
    o2 32 (.same 6) 7 true,
    o2 33 (.same 32) 7 true,
    o2 34 (.idx (.t 33)) 7 true,
    o2 35 (.load 13 [] 2 (.t 34) 1 false) 7 true,
    o2 36 (.data .not [.t 35]) 7 true,
    ⟨false, [], [], .pick 31 (.t 36) (.c (.bool false)), [37], (some 37), none⟩]))
  (.cond (.t 37)
   .skip
   (.exit 0)))
  (.seq (.block 1 (.rg [⟨false, [], [13], .det 1 (.idx .nil), [40], (some 40), none⟩,
    ⟨false, [], [13], .det 1 (.load 7 [] 3 (.t 40) 1 true), [41], (some 41), none⟩,
    o1 42 (.same 6),
    ⟨false, [], [], .call 2 185 [.t 13] (.mp 0), [43, 13], (some 43), none⟩,
    o1 44 (.sli [.i .i64] [.t 43]),
    ⟨false, [41], [], .det 2 (.app (some 41) 44), [45, 41, 41, 7], (some 45), none⟩,
    o1 46 (.idx .nil),
    o4 2 [7, 45, 41] (.store 7 [] 3 (.t 46) (.t 45))]))
  (.rg [o1 38 (.copy 8),
    o1 39 (.data (.bin .add) [.t 38, .c (.int .i64 (1))]),
    o1 8 (.copy 39)])))))))
 (.seq (.rg [o1 48 (.copy 0),
   o1 49 (.load 7 [] 0 .nil 4 true),
   o3 50 202 [.t 48, .t 49],
   ⟨false, [], [], .det 2 (.copy 50), [47, 50], (some 47), none⟩,
   o1 51 (.ext 47 0 1),
   o1 52 (.ext 47 1 1),
   o1 9 (.copy 51),
   o1 10 (.copy 52)])
 (.seq (.seq (.join [⟨65, [.b], false⟩] 73777969095583465472 none (.rg [o1 53 (.same 6),
   o1 54 (.same 53),
   o1 55 (.idx (.t 54)),
   o1 56 (.load 13 [] 2 (.t 55) 1 false),
   o1 57 (.copy 56),
   o2 58 (.copy 10) 4 false,
   o2 59 (.data .not [.t 58]) 4 false,
   ⟨false, [], [], .pick 57 (.c (.bool true)) (.t 59), [60], (some 60), none⟩,
   o1 61 (.copy 60),
   o2 62 (.copy 9) 8 false,
   o2 63 (.copy 1) 8 false,
   o2 64 (.data (.bin .neq) [.t 62, .t 63]) 8 false,
   ⟨false, [], [], .pick 61 (.c (.bool true)) (.t 64), [65], (some 65), none⟩]))
 (.cond (.t 65)
  (.seq (.rg [o1 66 (.build [.i .i64, .b, .sl [.i .i64, .i .i64], .sl [.i .i64]] []),
    o4 2 [4, 66] (.store 4 [] 0 .nil (.t 66)),
    o1 5 (.lit [.b] [.bool false])])
  .ret)
  .skip))
 (.seq (.rg [o1 67 (.load 7 [] 0 .nil 4 true),
   ⟨false, [67], [], .det 2 (.store 4 [] 0 .nil (.t 67)), [4, 67, 67, 7, 49], none, none⟩,
   o1 5 (.lit [.b] [.bool true])])
 .ret)))))))))
def s_sReadAnswer : Sig := ⟨[.rd false [.d], .rd false [.d]], (.tup [(true, 4), (false, 1)] [.d, .d, .sl (.own none) [.d, .d], .sl (.own none) [.d], .d])⟩
noncomputable def E_sReadAnswer : TEnv := envOf [(184, p_sl09Var), (185, p_sl09One), (186, p_sl09ReadEdges), (202, p_sAnswerText)]
noncomputable def f_sReadAnswer (n : Nat) : Int × ByteArray → Option ((Int × Bool × List (Int × Int) × List (Int) × Bool) × Unit) := runFn n E_sReadAnswer c_sReadAnswer [[.i .i64], [.s]] [.i .i64, .b, .sl [.i .i64, .i .i64], .sl [.i .i64], .b] [] [4, 5] .no
noncomputable def g_sReadAnswer := f_sReadAnswer BIG
noncomputable def p_sReadAnswer : TSp := ⟨s_sReadAnswer, [[.i .i64], [.s]], [.i .i64, .b, .sl [.i .i64, .i .i64], .sl [.i .i64], .b], [], Ou.j .no, g_sReadAnswer⟩
theorem k_sReadAnswer : chkW PG E_sReadAnswer 71 s_sReadAnswer (c_sReadAnswer.ht 68) .no = some (c_sReadAnswer.wc E_sReadAnswer, [4, 5]) := by kernel_rfl
theorem ok_sReadAnswer : p_sReadAnswer.Ok PG 71 := mkOk (env_cons ok_sl09Var (env_cons ok_sl09One (env_cons ok_sl09ReadEdges (env_cons ok_sAnswerText (env_nil PG))))) k_sReadAnswer (by kernel_rfl)
theorem e_sReadAnswer (n : Nat) (a0 : Int) (a1 : ByteArray) : f_sReadAnswer n (a0, a1) =
  Option.bind (g_sl09Var (a1, (0 : Int), false)) fun r0 =>
  Option.bind (g_sl09One r0.2) fun r1 =>
  Option.bind (g_sl09ReadEdges r1.2) fun r2 =>
  Option.bind (loopT n (X := (ByteArray × Int × Bool) × (Int × Bool × List (Int × Int) × List (Int)) × Int) (B := (ByteArray × Int × Bool) × (Int × Bool × List (Int × Int) × List (Int))) (fun self4 x3 =>
    Option.bind (bif decide (x3.2.2 < a0) then
      bif decide (x3.2.2 < (12 : Int)) then
       some !x3.1.2.2
      else some false
     else some false : Option (Bool)) fun x5 =>
    bif x5 then
     Option.bind (g_sl09One x3.1) fun r6 =>
     bif decide (x3.2.1.2.2.2.length + [r6.1].length ≤ 4294967296) then
      self4 (r6.2, (x3.2.1.1, x3.2.1.2.1, x3.2.1.2.2.1, x3.2.1.2.2.2 ++ [r6.1]), IntKind.wrap .i64 (x3.2.2 + (1 : Int)))
     else none
    else some (x3.1, x3.2.1)) (r2.2, (r0.1, decide (r1.1 = (1 : Int)), r2.1, []), (0 : Int)) : Option ((ByteArray × Int × Bool) × (Int × Bool × List (Int × Int) × List (Int)))) fun x7 =>
  Option.bind (g_sAnswerText (a0, x7.2)) fun r8 =>
  Option.bind (bif x7.1.2.2 then
    some true
   else bif !r8.1.2 then
    some true
   else some (!(r8.1.1.toList == a1.toList)) : Option (Bool)) fun x9 =>
  bif x9 then
   some (((0 : Int), false, [], [], false), ())
  else some ((x7.2.1, x7.2.2.1, x7.2.2.2.1, x7.2.2.2.2, true), ()) := by kernel_rfl
/- impl.in -/
def c_iin : TC :=
 (.seq (.rg [o1 6 (.lit [.b] [.bool false])])
 (.seq (.join [⟨6, [.b], false⟩] 32704 none (.rg [o1 7 (.copy 0),
   o1 8 (.copy 1),
   o1 9 (.data (.bin .geq) [.t 7, .t 8]),
   o1 10 (.copy 9),
   o2 11 (.copy 0) 3 true,
   o2 12 (.copy 2) 3 true,
   o2 13 (.data (.bin .leq) [.t 11, .t 12]) 3 true,
   ⟨false, [], [], .pick 10 (.t 13) (.c (.bool false)), [14], (some 14), none⟩,
   o1 6 (.copy 14)]))
 .ret))
def s_iin : Sig := ⟨[.rd false [.d], .rd false [.d], .rd false [.d]], (.one false [.d])⟩
noncomputable def E_iin : TEnv := envOf []
noncomputable def f_iin (n : Nat) : Int × Int × Int → Option ((Bool) × Unit) := runFn n E_iin c_iin [[.i .i64], [.i .i64], [.i .i64]] [.b] [] [6] .no
noncomputable def g_iin := f_iin BIG
noncomputable def p_iin : TSp := ⟨s_iin, [[.i .i64], [.i .i64], [.i .i64]], [.b], [], Ou.j .no, g_iin⟩
theorem k_iin : chkW PG E_iin 161 s_iin (c_iin.ht 15) .no = some (c_iin.wc E_iin, [6]) := by kernel_rfl
theorem ok_iin : p_iin.Ok PG 161 := mkOk (env_nil PG) k_iin (by kernel_rfl)
theorem e_iin (n : Nat) (a0 : Int) (a1 : Int) (a2 : Int) : f_iin n (a0, a1, a2) =
  Option.bind (bif decide (a1 ≤ a0) then
    some (decide (a0 ≤ a2))
   else some false : Option (Bool)) fun x0 =>
  some (x0, ()) := by kernel_rfl
/- impl.ReadVar -/
def c_iReadVar : TC :=
 (.seq (.rg [o1 4 (.lit [.i .i64] [.int .i64 (0)]),
   o1 5 (.lit [.i .i64] [.int .i64 (0)]),
   o1 6 (.lit [.b] [.bool false])])
 (.seq (.seq (.rg [o1 11 (.copy 1),
   o1 12 (.copy 0),
   o1 13 (.data .slen [.t 12]),
   o3 14 161 [.t 11, .c [.i .i64] [.int .i64 (0)], .t 13],
   o1 15 (.data .not [.t 14])])
 (.cond (.t 15)
  (.seq (.rg [o1 4 (.lit [.i .i64] [.int .i64 (0)]),
    o1 5 (.lit [.i .i64] [.int .i64 (0)]),
    o1 6 (.lit [.b] [.bool false])])
  .ret)
  .skip))
 (.seq (.rg [o1 7 (.lit [.i .i64] [.int .i64 (0)]),
   o1 8 (.lit [.i .i64] [.int .i64 (1)])])
 (.seq (.join [] 144115188075792368 (some [⟨4, [.i .i64], false⟩, ⟨5, [.i .i64], false⟩, ⟨6, [.b], false⟩]) (.seq (.rg [o1 16 (.copy 1),
   o1 9 (.copy 16)])
 (.block 0 (.loop [⟨7, [.i .i64], false⟩, ⟨8, [.i .i64], false⟩, ⟨9, [.i .i64], false⟩] 144115188075726832
  (.seq (.seq (.join [⟨26, [.b], false⟩] 134086656 none (.rg [o1 17 (.copy 9),
    o1 18 (.copy 0),
    o1 19 (.data .slen [.t 18]),
    o1 20 (.data (.bin .lss) [.t 17, .t 19]),
    o1 21 (.copy 20),
    o2 22 (.copy 9) 4 true,
    o2 23 (.copy 1) 4 true,
    o2 24 (.data (.bin .add) [.t 23, .c (.int .i64 (5))]) 4 true,
    o2 25 (.data (.bin .lss) [.t 22, .t 24]) 4 true,
    ⟨false, [], [], .pick 21 (.t 25) (.c (.bool false)), [26], (some 26), none⟩]))
  (.cond (.t 26)
   .skip
   (.exit 0)))
  (.seq (.block 1 (.seq (.rg [o1 29 (.copy 0),
    o1 30 (.copy 9),
    o1 31 (.data .sidx [.t 29, .t 30]),
    o1 32 (.data (.conv .i64) [.t 31]),
    o1 10 (.copy 32)])
  (.seq (.rg [o1 33 (.copy 7),
    o1 34 (.copy 10),
    o1 35 (.data (.bin .rem) [.t 34, .c (.int .i64 (128))]),
    o1 36 (.copy 8),
    o1 37 (.data (.bin .mul) [.t 35, .t 36]),
    o1 38 (.data (.bin .add) [.t 33, .t 37]),
    o1 7 (.copy 38)])
  (.seq (.rg [o1 39 (.copy 8),
    o1 40 (.data (.bin .mul) [.t 39, .c (.int .i64 (128))]),
    o1 8 (.copy 40)])
  (.seq (.rg [o1 41 (.copy 10),
    o1 42 (.data (.bin .lss) [.t 41, .c (.int .i64 (128))])])
  (.cond (.t 42)
   (.seq (.seq (.join [⟨53, [.b], false⟩] 18005602416459776 none (.rg [o1 43 (.copy 10),
     o1 44 (.data (.bin .eql) [.t 43, .c (.int .i64 (0))]),
     o1 45 (.copy 44),
     o2 46 (.copy 9) 2 true,
     o2 47 (.copy 1) 2 true,
     o2 48 (.data (.bin .gtr) [.t 46, .t 47]) 2 true,
     ⟨false, [], [], .pick 45 (.t 48) (.c (.bool false)), [49], (some 49), none⟩,
     o1 50 (.copy 49),
     o2 51 (.copy 7) 7 false,
     o2 52 (.data (.bin .gtr) [.t 51, .c (.int .i64 (1000000000))]) 7 false,
     ⟨false, [], [], .pick 50 (.c (.bool true)) (.t 52), [53], (some 53), none⟩]))
   (.cond (.t 53)
    (.exit 0)
    .skip))
   (.seq (.rg [o1 54 (.copy 7),
     o1 55 (.copy 9),
     o1 56 (.data (.bin .add) [.t 55, .c (.int .i64 (1))]),
     o1 4 (.copy 54),
     o1 5 (.copy 56),
     o1 6 (.lit [.b] [.bool true])])
   .ret))
   .skip))))))
  (.rg [o1 27 (.copy 9),
    o1 28 (.data (.bin .add) [.t 27, .c (.int .i64 (1))]),
    o1 9 (.copy 28)])))))))
 (.seq (.rg [o1 4 (.lit [.i .i64] [.int .i64 (0)]),
   o1 5 (.lit [.i .i64] [.int .i64 (0)]),
   o1 6 (.lit [.b] [.bool false])])
 .ret)))))
def s_iReadVar : Sig := ⟨[.rd false [.d], .rd false [.d]], (.tup [(false, 1), (false, 1), (false, 1)] [.d, .d, .d])⟩
noncomputable def E_iReadVar : TEnv := envOf [(161, p_iin)]
noncomputable def f_iReadVar (n : Nat) : ByteArray × Int → Option ((Int × Int × Bool) × Unit) := runFn n E_iReadVar c_iReadVar [[.s], [.i .i64]] [.i .i64, .i .i64, .b] [] [4, 5, 6] .no
noncomputable def g_iReadVar := f_iReadVar BIG
noncomputable def p_iReadVar : TSp := ⟨s_iReadVar, [[.s], [.i .i64]], [.i .i64, .i .i64, .b], [], Ou.j .no, g_iReadVar⟩
theorem k_iReadVar : chkW PG E_iReadVar 303 s_iReadVar (c_iReadVar.ht 57) .no = some (c_iReadVar.wc E_iReadVar, [4, 5, 6]) := by kernel_rfl
theorem ok_iReadVar : p_iReadVar.Ok PG 303 := mkOk (env_cons ok_iin (env_nil PG)) k_iReadVar (by kernel_rfl)
theorem e_iReadVar (n : Nat) (a0 : ByteArray) (a1 : Int) : f_iReadVar n (a0, a1) =
  Option.bind (g_iin (a1, (0 : Int), (a0.size : Int))) fun r0 =>
  bif !r0.1 then
   some (((0 : Int), (0 : Int), false), ())
  else Option.bind (loopT n (X := Int × Int × Int) (B := (Unit) ⊕ (Int × Int × Bool)) (fun self2 x1 =>
    Option.bind (bif decide (x1.2.2 < (a0.size : Int)) then
      some (decide (x1.2.2 < (IntKind.wrap .i64 (a1 + (5 : Int)))))
     else some false : Option (Bool)) fun x3 =>
    bif x3 then
     bnd a0.size x1.2.2 fun n4 => Option.bind a0[n4]? fun b5 =>
     bif decide ((128 : Int) = 0) then
      none
     else bif decide ((IntKind.wrap .i64 ((b5.toNat : Int))) < (128 : Int)) then
      Option.bind (bif decide ((IntKind.wrap .i64 ((b5.toNat : Int))) = (0 : Int)) then
        bif decide (a1 < x1.2.2) then
         some true
        else some (decide ((1000000000 : Int) < (IntKind.wrap .i64 (x1.1 + (IntKind.wrap .i64 ((Int.tmod (IntKind.wrap .i64 ((b5.toNat : Int))) (128 : Int)) * x1.2.1))))))
       else some (decide ((1000000000 : Int) < (IntKind.wrap .i64 (x1.1 + (IntKind.wrap .i64 ((Int.tmod (IntKind.wrap .i64 ((b5.toNat : Int))) (128 : Int)) * x1.2.1)))))) : Option (Bool)) fun x6 =>
      bif x6 then
       some (Sum.inl ())
      else some (Sum.inr (IntKind.wrap .i64 (x1.1 + (IntKind.wrap .i64 ((Int.tmod (IntKind.wrap .i64 ((b5.toNat : Int))) (128 : Int)) * x1.2.1))), IntKind.wrap .i64 (x1.2.2 + (1 : Int)), true))
     else self2 (IntKind.wrap .i64 (x1.1 + (IntKind.wrap .i64 ((Int.tmod (IntKind.wrap .i64 ((b5.toNat : Int))) (128 : Int)) * x1.2.1))), IntKind.wrap .i64 (x1.2.1 * (128 : Int)), IntKind.wrap .i64 (x1.2.2 + (1 : Int)))
    else some (Sum.inl ())) ((0 : Int), (1 : Int), a1) : Option ((Unit) ⊕ (Int × Int × Bool))) fun y => match y with
  | .inl x7 =>
   some (((0 : Int), (0 : Int), false), ())
  | .inr x7 =>
   some (x7, ()) := by kernel_rfl
/- impl.reader).num -/
def c_ireader_num : TC :=
 (.seq (.rg [o1 2 (.lit [.i .i64] [.int .i64 (0)])])
 (.seq (.rg [o1 7 (.p0),
   o1 8 (.same 7),
   o1 9 (.idx (.t 8)),
   o1 10 (.load 0 [] 0 (.t 9) 1 false),
   o1 11 (.p0),
   o1 12 (.same 11),
   o1 13 (.idx (.t 12)),
   o1 14 (.load 0 [] 1 (.t 13) 1 false),
   o3 15 303 [.t 10, .t 14],
   ⟨false, [], [], .det 2 (.copy 15), [6, 15], (some 6), none⟩,
   o1 16 (.ext 6 0 1),
   o1 17 (.ext 6 1 1),
   o1 18 (.ext 6 2 1),
   o1 3 (.copy 16),
   o1 4 (.copy 17),
   o1 5 (.copy 18)])
 (.seq (.seq (.join [⟨26, [.b], false⟩] 133693440 none (.rg [o1 19 (.p0),
   o1 20 (.same 19),
   o1 21 (.idx (.t 20)),
   o1 22 (.load 0 [] 2 (.t 21) 1 false),
   o1 23 (.copy 22),
   o2 24 (.copy 5) 4 false,
   o2 25 (.data .not [.t 24]) 4 false,
   ⟨false, [], [], .pick 23 (.c (.bool true)) (.t 25), [26], (some 26), none⟩]))
 (.cond (.t 26)
  (.seq (.rg [o1 27 (.p0),
    o1 28 (.same 27),
    o1 29 (.idx (.t 28)),
    o4 1 [0] (.store 0 [] 2 (.t 29) (.c [.b] [.bool true]))])
  (.seq (.rg [o1 2 (.lit [.i .i64] [.int .i64 (0)])])
  .ret))
  .skip))
 (.seq (.rg [o1 30 (.p0),
   o1 31 (.copy 4),
   o1 32 (.same 30),
   o1 33 (.idx (.t 32)),
   o4 1 [0] (.store 0 [] 1 (.t 33) (.t 31))])
 (.seq (.rg [o1 34 (.copy 3),
   o1 2 (.copy 34)])
 .ret)))))
def s_ireader_num : Sig := ⟨[.mp [.d, .d, .d]], (.one false [.d])⟩
noncomputable def E_ireader_num : TEnv := envOf [(303, p_iReadVar)]
noncomputable def f_ireader_num (n : Nat) : (ByteArray × Int × Bool) → Option ((Int) × ByteArray × Int × Bool) := runFn n E_ireader_num c_ireader_num [[.s, .i .i64, .b]] [.i .i64] [.s, .i .i64, .b] [2] (.mp 0)
noncomputable def g_ireader_num := f_ireader_num BIG
noncomputable def p_ireader_num : TSp := ⟨s_ireader_num, [[.s, .i .i64, .b]], [.i .i64], [.s, .i .i64, .b], Ou.j (.mp 0), g_ireader_num⟩
theorem k_ireader_num : chkW PG E_ireader_num 188 s_ireader_num (c_ireader_num.ht 35) (.mp 0) = some (c_ireader_num.wc E_ireader_num, [2]) := by kernel_rfl
theorem ok_ireader_num : p_ireader_num.Ok PG 188 := mkOk (env_cons ok_iReadVar (env_nil PG)) k_ireader_num (by kernel_rfl)
theorem e_ireader_num (n : Nat) (a0 : ByteArray × Int × Bool) : f_ireader_num n a0 =
  Option.bind (g_iReadVar (a0.1, a0.2.1)) fun r0 =>
  Option.bind (bif a0.2.2 then
    some true
   else some !r0.1.2.2 : Option (Bool)) fun x1 =>
  bif x1 then
   some ((0 : Int), (a0.1, a0.2.1, true))
  else some (r0.1.1, (a0.1, r0.1.2.1, a0.2.2)) := by kernel_rfl
/- impl.reader).one -/
def c_ireader_one : TC :=
 (.seq (.rg [o1 2 (.lit [.i .i64] [.int .i64 (0)])])
 (.seq (.seq (.join [⟨18, [.b], false⟩] 524280 none (.rg [o1 3 (.p0),
   o1 4 (.same 3),
   o1 5 (.idx (.t 4)),
   o1 6 (.load 0 [] 2 (.t 5) 1 false),
   o1 7 (.copy 6),
   o2 8 (.p0) 4 false,
   o2 9 (.same 8) 4 false,
   o2 10 (.idx (.t 9)) 4 false,
   o2 11 (.load 0 [] 1 (.t 10) 1 false) 4 false,
   o2 12 (.p0) 4 false,
   o2 13 (.same 12) 4 false,
   o2 14 (.idx (.t 13)) 4 false,
   o2 15 (.load 0 [] 0 (.t 14) 1 false) 4 false,
   o2 16 (.data .slen [.t 15]) 4 false,
   o2 17 (.data (.bin .geq) [.t 11, .t 16]) 4 false,
   ⟨false, [], [], .pick 7 (.c (.bool true)) (.t 17), [18], (some 18), none⟩]))
 (.cond (.t 18)
  (.seq (.rg [o1 19 (.p0),
    o1 20 (.same 19),
    o1 21 (.idx (.t 20)),
    o4 1 [0] (.store 0 [] 2 (.t 21) (.c [.b] [.bool true]))])
  (.seq (.rg [o1 2 (.lit [.i .i64] [.int .i64 (0)])])
  .ret))
  .skip))
 (.seq (.rg [o1 22 (.p0),
   o1 23 (.same 22),
   o1 24 (.idx (.t 23)),
   o1 25 (.load 0 [] 1 (.t 24) 1 false),
   o1 26 (.data (.bin .add) [.t 25, .c (.int .i64 (1))]),
   o1 27 (.same 22),
   o1 28 (.idx (.t 27)),
   o4 1 [0] (.store 0 [] 1 (.t 28) (.t 26))])
 (.seq (.rg [o1 29 (.p0),
   o1 30 (.same 29),
   o1 31 (.idx (.t 30)),
   o1 32 (.load 0 [] 0 (.t 31) 1 false),
   o1 33 (.p0),
   o1 34 (.same 33),
   o1 35 (.idx (.t 34)),
   o1 36 (.load 0 [] 1 (.t 35) 1 false),
   o1 37 (.data (.bin .sub) [.t 36, .c (.int .i64 (1))]),
   o1 38 (.data .sidx [.t 32, .t 37]),
   o1 39 (.data (.conv .i64) [.t 38]),
   o1 2 (.copy 39)])
 .ret))))
def s_ireader_one : Sig := ⟨[.mp [.d, .d, .d]], (.one false [.d])⟩
noncomputable def E_ireader_one : TEnv := envOf []
noncomputable def f_ireader_one (n : Nat) : (ByteArray × Int × Bool) → Option ((Int) × ByteArray × Int × Bool) := runFn n E_ireader_one c_ireader_one [[.s, .i .i64, .b]] [.i .i64] [.s, .i .i64, .b] [2] (.mp 0)
noncomputable def g_ireader_one := f_ireader_one BIG
noncomputable def p_ireader_one : TSp := ⟨s_ireader_one, [[.s, .i .i64, .b]], [.i .i64], [.s, .i .i64, .b], Ou.j (.mp 0), g_ireader_one⟩
theorem k_ireader_one : chkW PG E_ireader_one 189 s_ireader_one (c_ireader_one.ht 40) (.mp 0) = some (c_ireader_one.wc E_ireader_one, [2]) := by kernel_rfl
theorem ok_ireader_one : p_ireader_one.Ok PG 189 := mkOk (env_nil PG) k_ireader_one (by kernel_rfl)
theorem e_ireader_one (n : Nat) (a0 : ByteArray × Int × Bool) : f_ireader_one n a0 =
  Option.bind (bif a0.2.2 then
    some true
   else some (decide ((a0.1.size : Int) ≤ a0.2.1)) : Option (Bool)) fun x0 =>
  bif x0 then
   some ((0 : Int), (a0.1, a0.2.1, true))
  else bnd a0.1.size (IntKind.wrap .i64 ((IntKind.wrap .i64 (a0.2.1 + (1 : Int))) - (1 : Int))) fun n1 => Option.bind a0.1[n1]? fun b2 =>
  some (IntKind.wrap .i64 ((b2.toNat : Int)), (a0.1, IntKind.wrap .i64 (a0.2.1 + (1 : Int)), a0.2.2)) := by kernel_rfl
/- impl.reader).edges -/
def c_ireader_edges : TC :=
 (.seq (.rg [o1 2 (.lit [.sl [.i .i64, .i .i64]] [.slice none 0 0])])
 (.seq (.rg [o1 3 (.lit [.sl [.i .i64, .i .i64]] [.slice none 0 0])])
 (.seq (.rg [o1 7 (.p0),
   ⟨false, [], [], .call 2 188 [.t 0] (.mp 0), [8, 0], (some 8), none⟩,
   o1 4 (.copy 8)])
 (.seq (.join [⟨0, [.s, .i .i64, .b], false⟩, ⟨3, [.sl [.i .i64, .i .i64]], false⟩] 1073741433 none (.block 0 (.loop [⟨0, [.s, .i .i64, .b], false⟩, ⟨3, [.sl [.i .i64, .i .i64]], false⟩, ⟨4, [.i .i64], false⟩] 1073741433
  (.seq (.seq (.join [⟨17, [.b], false⟩] 261632 none (.rg [o1 9 (.copy 4),
    o1 10 (.data (.bin .gtr) [.t 9, .c (.int .i64 (0))]),
    o1 11 (.copy 10),
    o2 12 (.p0) 2 true,
    o2 13 (.same 12) 2 true,
    o2 14 (.idx (.t 13)) 2 true,
    o2 15 (.load 0 [] 2 (.t 14) 1 false) 2 true,
    o2 16 (.data .not [.t 15]) 2 true,
    ⟨false, [], [], .pick 11 (.t 16) (.c (.bool false)), [17], (some 17), none⟩]))
  (.cond (.t 17)
   .skip
   (.exit 0)))
  (.seq (.block 1 (.seq (.rg [o1 20 (.p0),
    ⟨false, [], [], .call 2 189 [.t 0] (.mp 0), [21, 0], (some 21), none⟩,
    o1 5 (.copy 21)])
  (.seq (.rg [o1 22 (.p0),
    ⟨false, [], [], .call 2 189 [.t 0] (.mp 0), [23, 0], (some 23), none⟩,
    o1 6 (.copy 23)])
  (.rg [⟨false, [], [], .det 2 (.copy 3), [24, 3], (some 24), none⟩,
    o1 25 (.copy 5),
    o1 26 (.copy 6),
    o1 27 (.build [.i .i64, .i .i64] [(0, .t 25), (1, .t 26)]),
    o1 28 (.sli [.i .i64, .i .i64] [.t 27]),
    ⟨false, [], [], .det 2 (.app (some 24) 28), [29, 24], (some 29), none⟩,
    ⟨false, [], [], .det 2 (.copy 29), [3, 29], (some 3), none⟩]))))
  (.rg [o1 18 (.copy 4),
    o1 19 (.data (.bin .sub) [.t 18, .c (.int .i64 (1))]),
    o1 4 (.copy 19)]))))))
 (.seq (.rg [⟨false, [], [], .det 2 (.copy 3), [30, 3], (some 30), none⟩,
   ⟨false, [], [], .det 2 (.copy 30), [2, 30], (some 2), none⟩])
 .ret)))))
def s_ireader_edges : Sig := ⟨[.mp [.d, .d, .d]], (.one false [.sl (.own none) [.d, .d]])⟩
noncomputable def E_ireader_edges : TEnv := envOf [(188, p_ireader_num), (189, p_ireader_one)]
noncomputable def f_ireader_edges (n : Nat) : (ByteArray × Int × Bool) → Option ((List (Int × Int)) × ByteArray × Int × Bool) := runFn n E_ireader_edges c_ireader_edges [[.s, .i .i64, .b]] [.sl [.i .i64, .i .i64]] [.s, .i .i64, .b] [2] (.mp 0)
noncomputable def g_ireader_edges := f_ireader_edges BIG
noncomputable def p_ireader_edges : TSp := ⟨s_ireader_edges, [[.s, .i .i64, .b]], [.sl [.i .i64, .i .i64]], [.s, .i .i64, .b], Ou.j (.mp 0), g_ireader_edges⟩
theorem k_ireader_edges : chkW PG E_ireader_edges 190 s_ireader_edges (c_ireader_edges.ht 31) (.mp 0) = some (c_ireader_edges.wc E_ireader_edges, [2]) := by kernel_rfl
theorem ok_ireader_edges : p_ireader_edges.Ok PG 190 := mkOk (env_cons ok_ireader_num (env_cons ok_ireader_one (env_nil PG))) k_ireader_edges (by kernel_rfl)
theorem e_ireader_edges (n : Nat) (a0 : ByteArray × Int × Bool) : f_ireader_edges n a0 =
  Option.bind (g_ireader_num a0) fun r0 =>
  Option.bind (loopT n (X := (ByteArray × Int × Bool) × (List (Int × Int)) × Int) (B := (ByteArray × Int × Bool) × (List (Int × Int))) (fun self2 x1 =>
    Option.bind (bif decide ((0 : Int) < x1.2.2) then
      some !x1.1.2.2
     else some false : Option (Bool)) fun x3 =>
    bif x3 then
     Option.bind (g_ireader_one x1.1) fun r4 =>
     Option.bind (g_ireader_one r4.2) fun r5 =>
     bif decide (x1.2.1.length + ([(r4.1, r5.1)]).length ≤ 4294967296) then
      self2 (r5.2, x1.2.1 ++ ([(r4.1, r5.1)]), IntKind.wrap .i64 (x1.2.2 - (1 : Int)))
     else none
    else some (x1.1, x1.2.1)) (r0.2, [], r0.1) : Option ((ByteArray × Int × Bool) × (List (Int × Int)))) fun x6 =>
  some (x6.2, x6.1) := by kernel_rfl
/- impl.reader).ends -/
def c_ireader_ends : TC :=
 (.seq (.rg [o1 2 (.lit [.b] [.bool false])])
 (.seq (.join [⟨2, [.b], false⟩] 1048572 none (.rg [o1 3 (.p0),
   o1 4 (.same 3),
   o1 5 (.idx (.t 4)),
   o1 6 (.load 0 [] 2 (.t 5) 1 false),
   o1 7 (.data .not [.t 6]),
   o1 8 (.copy 7),
   o2 9 (.p0) 5 true,
   o2 10 (.same 9) 5 true,
   o2 11 (.idx (.t 10)) 5 true,
   o2 12 (.load 0 [] 1 (.t 11) 1 false) 5 true,
   o2 13 (.p0) 5 true,
   o2 14 (.same 13) 5 true,
   o2 15 (.idx (.t 14)) 5 true,
   o2 16 (.load 0 [] 0 (.t 15) 1 false) 5 true,
   o2 17 (.data .slen [.t 16]) 5 true,
   o2 18 (.data (.bin .eql) [.t 12, .t 17]) 5 true,
   ⟨false, [], [], .pick 8 (.t 18) (.c (.bool false)), [19], (some 19), none⟩,
   o1 2 (.copy 19)]))
 .ret))
def s_ireader_ends : Sig := ⟨[.mp [.d, .d, .d]], (.one false [.d])⟩
noncomputable def E_ireader_ends : TEnv := envOf []
noncomputable def f_ireader_ends (n : Nat) : (ByteArray × Int × Bool) → Option ((Bool) × ByteArray × Int × Bool) := runFn n E_ireader_ends c_ireader_ends [[.s, .i .i64, .b]] [.b] [.s, .i .i64, .b] [2] (.mp 0)
noncomputable def g_ireader_ends := f_ireader_ends BIG
noncomputable def p_ireader_ends : TSp := ⟨s_ireader_ends, [[.s, .i .i64, .b]], [.b], [.s, .i .i64, .b], Ou.j (.mp 0), g_ireader_ends⟩
theorem k_ireader_ends : chkW PG E_ireader_ends 191 s_ireader_ends (c_ireader_ends.ht 20) (.mp 0) = some (c_ireader_ends.wc E_ireader_ends, [2]) := by kernel_rfl
theorem ok_ireader_ends : p_ireader_ends.Ok PG 191 := mkOk (env_nil PG) k_ireader_ends (by kernel_rfl)
theorem e_ireader_ends (n : Nat) (a0 : ByteArray × Int × Bool) : f_ireader_ends n a0 =
  Option.bind (bif !a0.2.2 then
    some (decide (a0.2.1 = (a0.1.size : Int)))
   else some false : Option (Bool)) fun x0 =>
  some (x0, a0) := by kernel_rfl
/- impl.EdgeOk -/
def c_iEdgeOk : TC :=
 (.seq (.rg [o1 3 (.a (.t 1)),
   o1 4 (.lit [.b] [.bool false])])
 (.seq (.join [⟨4, [.b], false⟩] 268435440 none (.rg [o1 5 (.copy 0),
   o3 6 161 [.t 5, .c [.i .i64] [.int .i64 (1)], .c [.i .i64] [.int .i64 (12)]],
   o1 7 (.copy 6),
   o2 8 (.idx .nil) 2 true,
   o2 9 (.load 3 [] 0 (.t 8) 1 false) 2 true,
   o2 10 (.copy 0) 2 true,
   o2 11 (.data (.bin .sub) [.t 10, .c (.int .i64 (1))]) 2 true,
   ⟨false, [], [], .call 1 161 [.t 9, .c [.i .i64] [.int .i64 (0)], .t 11] .no, [12], (some 12), some (2, true)⟩,
   ⟨false, [], [], .pick 7 (.t 12) (.c (.bool false)), [13], (some 13), none⟩,
   o1 14 (.copy 13),
   o2 15 (.idx .nil) 9 true,
   o2 16 (.load 3 [] 1 (.t 15) 1 false) 9 true,
   o2 17 (.copy 0) 9 true,
   o2 18 (.data (.bin .sub) [.t 17, .c (.int .i64 (1))]) 9 true,
   ⟨false, [], [], .call 1 161 [.t 16, .c [.i .i64] [.int .i64 (0)], .t 18] .no, [19], (some 19), some (9, true)⟩,
   ⟨false, [], [], .pick 14 (.t 19) (.c (.bool false)), [20], (some 20), none⟩,
   o1 21 (.copy 20),
   o2 22 (.idx .nil) 16 true,
   o2 23 (.load 3 [] 0 (.t 22) 1 false) 16 true,
   o2 24 (.idx .nil) 16 true,
   o2 25 (.load 3 [] 1 (.t 24) 1 false) 16 true,
   o2 26 (.data (.bin .lss) [.t 23, .t 25]) 16 true,
   ⟨false, [], [], .pick 21 (.t 26) (.c (.bool false)), [27], (some 27), none⟩,
   o1 4 (.copy 27)]))
 .ret))
def s_iEdgeOk : Sig := ⟨[.rd false [.d], .rd true [.d, .d]], (.one false [.d])⟩
noncomputable def E_iEdgeOk : TEnv := envOf [(161, p_iin)]
noncomputable def f_iEdgeOk (n : Nat) : Int × (Int × Int) → Option ((Bool) × Unit) := runFn n E_iEdgeOk c_iEdgeOk [[.i .i64], [.i .i64, .i .i64]] [.b] [] [4] .no
noncomputable def g_iEdgeOk := f_iEdgeOk BIG
noncomputable def p_iEdgeOk : TSp := ⟨s_iEdgeOk, [[.i .i64], [.i .i64, .i .i64]], [.b], [], Ou.j .no, g_iEdgeOk⟩
theorem k_iEdgeOk : chkW PG E_iEdgeOk 173 s_iEdgeOk (c_iEdgeOk.ht 28) .no = some (c_iEdgeOk.wc E_iEdgeOk, [4]) := by kernel_rfl
theorem ok_iEdgeOk : p_iEdgeOk.Ok PG 173 := mkOk (env_cons ok_iin (env_nil PG)) k_iEdgeOk (by kernel_rfl)
theorem e_iEdgeOk (n : Nat) (a0 : Int) (a1 : Int × Int) : f_iEdgeOk n (a0, a1) =
  Option.bind (Option.bind (g_iin (a0, (1 : Int), (12 : Int))) fun r0 =>
   bif r0.1 then
    Option.bind (g_iin (a1.1, (0 : Int), IntKind.wrap .i64 (a0 - (1 : Int)))) fun r1 =>
    bif r1.1 then
     Option.bind (g_iin (a1.2, (0 : Int), IntKind.wrap .i64 (a0 - (1 : Int)))) fun r2 =>
     bif r2.1 then
      some (decide (a1.1 < a1.2))
     else some false
    else some false
   else some false : Option (Bool)) fun x3 =>
  some (x3, ()) := by kernel_rfl
/- impl.ahead -/
def c_iahead : TC :=
 (.seq (.rg [o1 2 (.a (.t 0)),
   o1 3 (.a (.t 1)),
   o1 4 (.lit [.b] [.bool false])])
 (.seq (.join [⟨4, [.b], false⟩] 16777200 none (.rg [o1 5 (.idx .nil),
   o1 6 (.load 2 [] 0 (.t 5) 1 false),
   o1 7 (.idx .nil),
   o1 8 (.load 3 [] 0 (.t 7) 1 false),
   o1 9 (.data (.bin .lss) [.t 6, .t 8]),
   o1 10 (.copy 9),
   o2 11 (.idx .nil) 5 false,
   o2 12 (.load 2 [] 0 (.t 11) 1 false) 5 false,
   o2 13 (.idx .nil) 5 false,
   o2 14 (.load 3 [] 0 (.t 13) 1 false) 5 false,
   o2 15 (.data (.bin .eql) [.t 12, .t 14]) 5 false,
   o2 16 (.copy 15) 5 false,
   o2 17 (.idx .nil) 11 true,
   o2 18 (.load 2 [] 1 (.t 17) 1 false) 11 true,
   o2 19 (.idx .nil) 11 true,
   o2 20 (.load 3 [] 1 (.t 19) 1 false) 11 true,
   o2 21 (.data (.bin .lss) [.t 18, .t 20]) 11 true,
   ⟨false, [], [], .pick 16 (.t 21) (.c (.bool false)), [22], (some 22), some (5, false)⟩,
   ⟨false, [], [], .pick 10 (.c (.bool true)) (.t 22), [23], (some 23), none⟩,
   o1 4 (.copy 23)]))
 .ret))
def s_iahead : Sig := ⟨[.rd true [.d, .d], .rd true [.d, .d]], (.one false [.d])⟩
noncomputable def E_iahead : TEnv := envOf []
noncomputable def f_iahead (n : Nat) : (Int × Int) × (Int × Int) → Option ((Bool) × Unit) := runFn n E_iahead c_iahead [[.i .i64, .i .i64], [.i .i64, .i .i64]] [.b] [] [4] .no
noncomputable def g_iahead := f_iahead BIG
noncomputable def p_iahead : TSp := ⟨s_iahead, [[.i .i64, .i .i64], [.i .i64, .i .i64]], [.b], [], Ou.j .no, g_iahead⟩
theorem k_iahead : chkW PG E_iahead 272 s_iahead (c_iahead.ht 24) .no = some (c_iahead.wc E_iahead, [4]) := by kernel_rfl
theorem ok_iahead : p_iahead.Ok PG 272 := mkOk (env_nil PG) k_iahead (by kernel_rfl)
theorem e_iahead (n : Nat) (a0 : Int × Int) (a1 : Int × Int) : f_iahead n (a0, a1) =
  Option.bind (bif decide (a0.1 < a1.1) then
    some true
   else bif decide (a0.1 = a1.1) then
    some (decide (a0.2 < a1.2))
   else some false : Option (Bool)) fun x0 =>
  some (x0, ()) := by kernel_rfl
/- impl.edgesOk -/
def c_iedgesOk : TC :=
 (.seq (.rg [o1 4 (.lit [.b] [.bool false])])
 (.seq (.join [] 8589934576 (some [⟨4, [.b], false⟩]) (.seq (.rg [o1 7 (.copy 1),
   o1 8 (.len 7),
   o1 9 (.lit [.i .i64] [.int .i64 (0)])])
 (.block 0 (.loop [⟨9, [.i .i64], false⟩] 8589934192
  (.seq (.rg [o1 10 (.data (.bin .lss) [.t 9, .t 8])])
  (.seq (.cond (.t 10)
   .skip
   (.exit 0))
  (.seq (.join [] 4294965360 (some [⟨4, [.b], false⟩]) (.block 1 (.seq (.rg [o1 11 (.copy 9),
    o1 12 (.index 7 (.t 9)),
    o1 13 (.load 7 [(0, 2)] 0 (.t 12) 2 false),
    ⟨false, [], [], .det 2 (.a (.c [.i .i64, .i .i64] [.int .i64 (0), .int .i64 (0)])), [6, 1000000001], (some 6), none⟩,
    o1 5 (.copy 11),
    o4 1 [6] (.store 6 [] 0 .nil (.t 13))])
  (.seq (.join [⟨31, [.b], false⟩] 4294950912 none (.rg [o1 14 (.copy 0),
    o1 15 (.load 6 [] 0 .nil 2 false),
    o3 16 173 [.t 14, .t 15],
    o1 17 (.data .not [.t 16]),
    o1 18 (.copy 17),
    o2 19 (.copy 5) 4 false,
    o2 20 (.data (.bin .gtr) [.t 19, .c (.int .i64 (0))]) 4 false,
    o2 21 (.copy 20) 4 false,
    o2 22 (.copy 1) 7 true,
    o2 23 (.copy 5) 7 true,
    o2 24 (.data (.bin .sub) [.t 23, .c (.int .i64 (1))]) 7 true,
    o2 25 (.index 22 (.t 24)) 7 true,
    o2 26 (.load 22 [(0, 2)] 0 (.t 25) 2 false) 7 true,
    o2 27 (.load 6 [] 0 .nil 2 false) 7 true,
    ⟨false, [], [], .call 1 272 [.t 26, .t 27] .no, [28], (some 28), some (7, true)⟩,
    o2 29 (.data .not [.t 28]) 7 true,
    ⟨false, [], [], .pick 21 (.t 29) (.c (.bool false)), [30], (some 30), some (4, false)⟩,
    ⟨false, [], [], .pick 18 (.c (.bool true)) (.t 30), [31], (some 31), none⟩]))
  (.cond (.t 31)
   (.seq (.rg [o1 4 (.lit [.b] [.bool false])])
   .ret)
   .skip)))))
  (.rg [o1 32 (.data (.bin .add) [.t 9, .c (.int .i64 (1))]),
    o1 9 (.copy 32)]))))))))
 (.seq (.rg [o1 33 (.copy 1),
   o1 34 (.len 33),
   o1 35 (.data (.bin .leq) [.t 34, .c (.int .i64 (66))]),
   o1 4 (.copy 35)])
 .ret)))
def s_iedgesOk : Sig := ⟨[.rd false [.d], .rd false [.sl (.own none) [.d, .d]]], (.one false [.d])⟩
noncomputable def E_iedgesOk : TEnv := envOf [(173, p_iEdgeOk), (272, p_iahead)]
noncomputable def f_iedgesOk (n : Nat) : Int × (List (Int × Int)) → Option ((Bool) × Unit) := runFn n E_iedgesOk c_iedgesOk [[.i .i64], [.sl [.i .i64, .i .i64]]] [.b] [] [4] .no
noncomputable def g_iedgesOk := f_iedgesOk BIG
noncomputable def p_iedgesOk : TSp := ⟨s_iedgesOk, [[.i .i64], [.sl [.i .i64, .i .i64]]], [.b], [], Ou.j .no, g_iedgesOk⟩
theorem k_iedgesOk : chkW PG E_iedgesOk 255 s_iedgesOk (c_iedgesOk.ht 36) .no = some (c_iedgesOk.wc E_iedgesOk, [4]) := by kernel_rfl
theorem ok_iedgesOk : p_iedgesOk.Ok PG 255 := mkOk (env_cons ok_iEdgeOk (env_cons ok_iahead (env_nil PG))) k_iedgesOk (by kernel_rfl)
theorem e_iedgesOk (n : Nat) (a0 : Int) (a1 : List (Int × Int)) : f_iedgesOk n (a0, a1) =
  Option.bind (loopT n (X := Int) (B := (Unit) ⊕ (Bool)) (fun self1 x0 =>
    bif decide (x0 < (a1.length : Int)) then
     Option.bind (bnd a1.length x0 fun n2 =>
      Option.bind a1[n2]? fun y3 =>
      Option.bind (Option.bind (g_iEdgeOk (a0, y3)) fun r4 =>
       bif !r4.1 then
        some true
       else bif decide ((0 : Int) < x0) then
        bnd a1.length (IntKind.wrap .i64 (x0 - (1 : Int))) fun n5 =>
        Option.bind a1[n5]? fun y6 =>
        Option.bind (g_iahead (y6, y3)) fun r7 =>
        some !r7.1
       else some false : Option (Bool)) fun x8 =>
      bif x8 then
       some (Sum.inr false)
      else some (Sum.inl ()) : Option ((Unit) ⊕ (Bool))) fun y => match y with
     | .inl x9 =>
      self1 (IntKind.wrap .i64 (x0 + (1 : Int)))
     | .inr x9 =>
      some (Sum.inr x9)
    else some (Sum.inl ())) (0 : Int) : Option ((Unit) ⊕ (Bool))) fun y => match y with
  | .inl x10 =>
   some (decide ((a1.length : Int) ≤ (66 : Int)), ())
  | .inr x10 =>
   some (x10, ()) := by kernel_rfl
/- impl.labelsOk -/
def c_ilabelsOk : TC :=
 (.seq (.rg [o1 4 (.lit [.b] [.bool false])])
 (.seq (.seq (.rg [o1 7 (.copy 1),
   o1 8 (.len 7),
   o1 9 (.copy 0),
   o1 10 (.data (.bin .neq) [.t 8, .t 9])])
 (.cond (.t 10)
  (.seq (.rg [o1 4 (.lit [.b] [.bool false])])
  .ret)
  .skip))
 (.seq (.join [] 2147481712 (some [⟨4, [.b], false⟩]) (.seq (.rg [o1 11 (.copy 1),
   o1 12 (.len 11),
   o1 13 (.lit [.i .i64] [.int .i64 (0)])])
 (.block 0 (.loop [⟨13, [.i .i64], false⟩] 2147475568
  (.seq (.rg [o1 14 (.data (.bin .lss) [.t 13, .t 12])])
  (.seq (.cond (.t 14)
   .skip
   (.exit 0))
  (.seq (.join [] 1073709168 (some [⟨4, [.b], false⟩]) (.block 1 (.seq (.rg [o1 15 (.copy 13),
    o1 16 (.index 11 (.t 13)),
    o1 17 (.load 11 [(0, 1)] 0 (.t 16) 1 false),
    o1 5 (.copy 15),
    o1 6 (.copy 17)])
  (.seq (.join [⟨29, [.b], false⟩] 1073479680 none (.rg [o1 18 (.copy 6),
    o1 19 (.copy 5),
    o3 20 161 [.t 18, .c [.i .i64] [.int .i64 (0)], .t 19],
    o1 21 (.data .not [.t 20]),
    o1 22 (.copy 21),
    o2 23 (.copy 1) 4 false,
    o2 24 (.copy 6) 4 false,
    o2 25 (.index 23 (.t 24)) 4 false,
    o2 26 (.load 23 [(0, 1)] 0 (.t 25) 1 false) 4 false,
    o2 27 (.copy 6) 4 false,
    o2 28 (.data (.bin .neq) [.t 26, .t 27]) 4 false,
    ⟨false, [], [], .pick 22 (.c (.bool true)) (.t 28), [29], (some 29), none⟩]))
  (.cond (.t 29)
   (.seq (.rg [o1 4 (.lit [.b] [.bool false])])
   .ret)
   .skip)))))
  (.rg [o1 30 (.data (.bin .add) [.t 13, .c (.int .i64 (1))]),
    o1 13 (.copy 30)]))))))))
 (.seq (.rg [o1 4 (.lit [.b] [.bool true])])
 .ret))))
def s_ilabelsOk : Sig := ⟨[.rd false [.d], .rd false [.sl (.own none) [.d]]], (.one false [.d])⟩
noncomputable def E_ilabelsOk : TEnv := envOf [(161, p_iin)]
noncomputable def f_ilabelsOk (n : Nat) : Int × List (Int) → Option ((Bool) × Unit) := runFn n E_ilabelsOk c_ilabelsOk [[.i .i64], [.sl [.i .i64]]] [.b] [] [4] .no
noncomputable def g_ilabelsOk := f_ilabelsOk BIG
noncomputable def p_ilabelsOk : TSp := ⟨s_ilabelsOk, [[.i .i64], [.sl [.i .i64]]], [.b], [], Ou.j .no, g_ilabelsOk⟩
theorem k_ilabelsOk : chkW PG E_ilabelsOk 205 s_ilabelsOk (c_ilabelsOk.ht 31) .no = some (c_ilabelsOk.wc E_ilabelsOk, [4]) := by kernel_rfl
theorem ok_ilabelsOk : p_ilabelsOk.Ok PG 205 := mkOk (env_cons ok_iin (env_nil PG)) k_ilabelsOk (by kernel_rfl)
theorem e_ilabelsOk (n : Nat) (a0 : Int) (a1 : List (Int)) : f_ilabelsOk n (a0, a1) =
  bif !decide ((a1.length : Int) = a0) then
   some (false, ())
  else Option.bind (loopT n (X := Int) (B := (Unit) ⊕ (Bool)) (fun self1 x0 =>
    bif decide (x0 < (a1.length : Int)) then
     Option.bind (bnd a1.length x0 fun n2 =>
      Option.bind a1[n2]? fun y3 =>
      Option.bind (Option.bind (g_iin (y3, (0 : Int), x0)) fun r4 =>
       bif !r4.1 then
        some true
       else bnd a1.length y3 fun n5 =>
       Option.bind a1[n5]? fun y6 =>
       some (!decide (y6 = y3)) : Option (Bool)) fun x7 =>
      bif x7 then
       some (Sum.inr false)
      else some (Sum.inl ()) : Option ((Unit) ⊕ (Bool))) fun y => match y with
     | .inl x8 =>
      self1 (IntKind.wrap .i64 (x0 + (1 : Int)))
     | .inr x8 =>
      some (Sum.inr x8)
    else some (Sum.inl ())) (0 : Int) : Option ((Unit) ⊕ (Bool))) fun y => match y with
  | .inl x9 =>
   some (true, ())
  | .inr x9 =>
   some (x9, ()) := by kernel_rfl
/- impl.AnswerOk -/
def c_iAnswerOk : TC :=
 (.seq (.rg [o1 3 (.a (.t 1)),
   o1 4 (.lit [.b] [.bool false])])
 (.seq (.join [⟨4, [.b], false⟩] 16777200 none (.rg [o1 5 (.copy 0),
   o3 6 161 [.t 5, .c [.i .i64] [.int .i64 (1)], .c [.i .i64] [.int .i64 (12)]],
   o1 7 (.copy 6),
   o2 8 (.idx .nil) 2 true,
   o2 9 (.load 3 [] 0 (.t 8) 1 false) 2 true,
   ⟨false, [], [], .call 1 161 [.t 9, .c [.i .i64] [.int .i64 (1)], .c [.i .i64] [.int .i64 (100000)]] .no, [10], (some 10), some (2, true)⟩,
   ⟨false, [], [], .pick 7 (.t 10) (.c (.bool false)), [11], (some 11), none⟩,
   o1 12 (.copy 11),
   o2 13 (.copy 0) 7 true,
   o2 14 (.idx .nil) 7 true,
   o2 15 (.load 3 [] 2 (.t 14) 1 false) 7 true,
   ⟨false, [], [], .call 1 255 [.t 13, .t 15] .no, [16], (some 16), some (7, true)⟩,
   ⟨false, [], [], .pick 12 (.t 16) (.c (.bool false)), [17], (some 17), none⟩,
   o1 18 (.copy 17),
   o2 19 (.copy 0) 13 true,
   o2 20 (.idx .nil) 13 true,
   o2 21 (.load 3 [] 3 (.t 20) 1 false) 13 true,
   ⟨false, [], [], .call 1 205 [.t 19, .t 21] .no, [22], (some 22), some (13, true)⟩,
   ⟨false, [], [], .pick 18 (.t 22) (.c (.bool false)), [23], (some 23), none⟩,
   o1 4 (.copy 23)]))
 .ret))
def s_iAnswerOk : Sig := ⟨[.rd false [.d], .rd true [.d, .d, .sl (.own none) [.d, .d], .sl (.own none) [.d]]], (.one false [.d])⟩
noncomputable def E_iAnswerOk : TEnv := envOf [(161, p_iin), (255, p_iedgesOk), (205, p_ilabelsOk)]
noncomputable def f_iAnswerOk (n : Nat) : Int × (Int × Bool × List (Int × Int) × List (Int)) → Option ((Bool) × Unit) := runFn n E_iAnswerOk c_iAnswerOk [[.i .i64], [.i .i64, .b, .sl [.i .i64, .i .i64], .sl [.i .i64]]] [.b] [] [4] .no
noncomputable def g_iAnswerOk := f_iAnswerOk BIG
noncomputable def p_iAnswerOk : TSp := ⟨s_iAnswerOk, [[.i .i64], [.i .i64, .b, .sl [.i .i64, .i .i64], .sl [.i .i64]]], [.b], [], Ou.j .no, g_iAnswerOk⟩
theorem k_iAnswerOk : chkW PG E_iAnswerOk 121 s_iAnswerOk (c_iAnswerOk.ht 24) .no = some (c_iAnswerOk.wc E_iAnswerOk, [4]) := by kernel_rfl
theorem ok_iAnswerOk : p_iAnswerOk.Ok PG 121 := mkOk (env_cons ok_iin (env_cons ok_iedgesOk (env_cons ok_ilabelsOk (env_nil PG)))) k_iAnswerOk (by kernel_rfl)
theorem e_iAnswerOk (n : Nat) (a0 : Int) (a1 : Int × Bool × List (Int × Int) × List (Int)) : f_iAnswerOk n (a0, a1) =
  Option.bind (Option.bind (g_iin (a0, (1 : Int), (12 : Int))) fun r0 =>
   bif r0.1 then
    Option.bind (g_iin (a1.1, (1 : Int), (100000 : Int))) fun r1 =>
    bif r1.1 then
     Option.bind (g_iedgesOk (a0, a1.2.2.1)) fun r2 =>
     bif r2.1 then
      Option.bind (g_ilabelsOk (a0, a1.2.2.2)) fun r3 =>
      some r3.1
     else some false
    else some false
   else some false : Option (Bool)) fun x4 =>
  some (x4, ()) := by kernel_rfl
/- impl.ReadAnswer -/
def c_iReadAnswer : TC :=
 (.seq (.rg [⟨false, [], [], .det 2 (.a (.c [.i .i64, .b, .sl [.i .i64, .i .i64], .sl [.i .i64]] [.int .i64 (0), .bool false, .slice none 0 0, .slice none 0 0])), [4, 1000000001], (some 4), none⟩,
   o1 5 (.lit [.b] [.bool false])])
 (.seq (.seq (.rg [o1 10 (.copy 0),
   o3 11 161 [.t 10, .c [.i .i64] [.int .i64 (1)], .c [.i .i64] [.int .i64 (12)]],
   o1 12 (.data .not [.t 11])])
 (.cond (.t 12)
  (.seq (.rg [o1 13 (.build [.i .i64, .b, .sl [.i .i64, .i .i64], .sl [.i .i64]] []),
    o4 2 [4, 13] (.store 4 [] 0 .nil (.t 13)),
    o1 5 (.lit [.b] [.bool false])])
  .ret)
  .skip))
 (.seq (.rg [o1 14 (.copy 1),
   o1 15 (.build [.s, .i .i64, .b] [(0, .t 14)]),
   o1 16 (.a (.t 15)),
   o1 6 (.p0)])
 (.seq (.rg [⟨false, [], [], .det 2 (.a (.c [.i .i64, .b, .sl [.i .i64, .i .i64], .sl [.i .i64]] [.int .i64 (0), .bool false, .slice none 0 0, .slice none 0 0])), [7, 1000000001], (some 7), none⟩])
 (.seq (.rg [o1 17 (.same 6),
   ⟨false, [], [], .call 2 188 [.t 16] (.mp 0), [18, 16], (some 18), none⟩,
   o1 19 (.idx .nil),
   o4 1 [7] (.store 7 [] 0 (.t 19) (.t 18))])
 (.seq (.rg [o1 20 (.same 6),
   ⟨false, [], [], .call 2 189 [.t 16] (.mp 0), [21, 16], (some 21), none⟩,
   o1 8 (.copy 21)])
 (.seq (.rg [o1 22 (.copy 8),
   o1 23 (.data (.bin .eql) [.t 22, .c (.int .i64 (1))]),
   o1 24 (.idx .nil),
   o4 1 [7] (.store 7 [] 1 (.t 24) (.t 23))])
 (.seq (.rg [o1 25 (.same 6),
   ⟨false, [], [], .call 2 190 [.t 16] (.mp 0), [26, 16], (some 26), none⟩,
   o1 27 (.idx .nil),
   o4 2 [7, 26] (.store 7 [] 2 (.t 27) (.t 26))])
 (.seq (.join [⟨16, [.s, .i .i64, .b], false⟩, ⟨7, [.i .i64, .b, .sl [.i .i64, .i .i64], .sl [.i .i64]], false⟩] 1099243258496 none (.seq (.rg [o1 28 (.copy 0),
   o1 29 (.lit [.i .i64] [.int .i64 (0)])])
 (.block 0 (.loop [⟨16, [.s, .i .i64, .b], false⟩, ⟨7, [.i .i64, .b, .sl [.i .i64, .i .i64], .sl [.i .i64]], false⟩, ⟨29, [.i .i64], false⟩] 1098974823040
  (.seq (.rg [o1 30 (.data (.bin .lss) [.t 29, .t 28])])
  (.seq (.cond (.t 30)
   .skip
   (.exit 0))
  (.seq (.block 1 (.seq (.rg [o1 31 (.same 6),
    ⟨false, [], [], .call 2 189 [.t 16] (.mp 0), [32, 16], (some 32), none⟩,
    o1 9 (.copy 32)])
  (.rg [o1 33 (.idx .nil),
    o1 34 (.load 7 [] 3 (.t 33) 1 true),
    o1 35 (.copy 9),
    o1 36 (.sli [.i .i64] [.t 35]),
    ⟨false, [34], [], .det 2 (.app (some 34) 36), [37, 34, 34, 7], (some 37), none⟩,
    o1 38 (.idx .nil),
    o4 2 [7, 37, 34] (.store 7 [] 3 (.t 38) (.t 37))])))
  (.rg [o1 39 (.data (.bin .add) [.t 29, .c (.int .i64 (1))]),
    o1 29 (.copy 39)]))))))))
 (.seq (.seq (.join [⟨52, [.b], false⟩] 9006099743178752 none (.rg [o1 40 (.copy 8),
   o1 41 (.data (.bin .gtr) [.t 40, .c (.int .i64 (1))]),
   o1 42 (.copy 41),
   o2 43 (.same 6) 2 false,
   ⟨false, [], [], .call 2 191 [.t 16] (.mp 0), [44, 16], (some 44), some (2, false)⟩,
   o2 45 (.data .not [.t 44]) 2 false,
   ⟨false, [], [], .pick 42 (.c (.bool true)) (.t 45), [46], (some 46), none⟩,
   o1 47 (.copy 46),
   o2 48 (.copy 0) 7 false,
   o2 49 (.load 7 [] 0 .nil 4 true) 7 false,
   ⟨false, [], [], .call 1 121 [.t 48, .t 49] .no, [50], (some 50), some (7, false)⟩,
   o2 51 (.data .not [.t 50]) 7 false,
   ⟨false, [], [], .pick 47 (.c (.bool true)) (.t 51), [52], (some 52), none⟩]))
 (.cond (.t 52)
  (.seq (.rg [o1 53 (.build [.i .i64, .b, .sl [.i .i64, .i .i64], .sl [.i .i64]] []),
    o4 2 [4, 53] (.store 4 [] 0 .nil (.t 53)),
    o1 5 (.lit [.b] [.bool false])])
  .ret)
  .skip))
 (.seq (.rg [o1 54 (.load 7 [] 0 .nil 4 true),
   ⟨false, [54], [], .det 2 (.store 4 [] 0 .nil (.t 54)), [4, 54, 54, 7], none, none⟩,
   o1 5 (.lit [.b] [.bool true])])
 .ret)))))))))))
def s_iReadAnswer : Sig := ⟨[.rd false [.d], .rd false [.d]], (.tup [(true, 4), (false, 1)] [.d, .d, .sl (.own none) [.d, .d], .sl (.own none) [.d], .d])⟩
noncomputable def E_iReadAnswer : TEnv := envOf [(161, p_iin), (188, p_ireader_num), (189, p_ireader_one), (190, p_ireader_edges), (191, p_ireader_ends), (121, p_iAnswerOk)]
noncomputable def f_iReadAnswer (n : Nat) : Int × ByteArray → Option ((Int × Bool × List (Int × Int) × List (Int) × Bool) × Unit) := runFn n E_iReadAnswer c_iReadAnswer [[.i .i64], [.s]] [.i .i64, .b, .sl [.i .i64, .i .i64], .sl [.i .i64], .b] [] [4, 5] .no
noncomputable def g_iReadAnswer := f_iReadAnswer BIG
noncomputable def p_iReadAnswer : TSp := ⟨s_iReadAnswer, [[.i .i64], [.s]], [.i .i64, .b, .sl [.i .i64, .i .i64], .sl [.i .i64], .b], [], Ou.j .no, g_iReadAnswer⟩
theorem k_iReadAnswer : chkW PG E_iReadAnswer 72 s_iReadAnswer (c_iReadAnswer.ht 55) .no = some (c_iReadAnswer.wc E_iReadAnswer, [4, 5]) := by kernel_rfl
theorem ok_iReadAnswer : p_iReadAnswer.Ok PG 72 := mkOk (env_cons ok_iin (env_cons ok_ireader_num (env_cons ok_ireader_one (env_cons ok_ireader_edges (env_cons ok_ireader_ends (env_cons ok_iAnswerOk (env_nil PG))))))) k_iReadAnswer (by kernel_rfl)
theorem e_iReadAnswer (n : Nat) (a0 : Int) (a1 : ByteArray) : f_iReadAnswer n (a0, a1) =
  Option.bind (g_iin (a0, (1 : Int), (12 : Int))) fun r0 =>
  bif !r0.1 then
   some (((0 : Int), false, [], [], false), ())
  else Option.bind (g_ireader_num (a1, (0 : Int), false)) fun r1 =>
  Option.bind (g_ireader_one r1.2) fun r2 =>
  Option.bind (g_ireader_edges r2.2) fun r3 =>
  Option.bind (loopT n (X := (ByteArray × Int × Bool) × (Int × Bool × List (Int × Int) × List (Int)) × Int) (B := (ByteArray × Int × Bool) × (Int × Bool × List (Int × Int) × List (Int))) (fun self5 x4 =>
    bif decide (x4.2.2 < a0) then
     Option.bind (g_ireader_one x4.1) fun r6 =>
     bif decide (x4.2.1.2.2.2.length + [r6.1].length ≤ 4294967296) then
      self5 (r6.2, (x4.2.1.1, x4.2.1.2.1, x4.2.1.2.2.1, x4.2.1.2.2.2 ++ [r6.1]), IntKind.wrap .i64 (x4.2.2 + (1 : Int)))
     else none
    else some (x4.1, x4.2.1)) (r3.2, (r1.1, decide (r2.1 = (1 : Int)), r3.1, []), (0 : Int)) : Option ((ByteArray × Int × Bool) × (Int × Bool × List (Int × Int) × List (Int)))) fun x7 =>
  Option.bind (bif decide ((1 : Int) < r2.1) then
    some true
   else Option.bind (g_ireader_ends x7.1) fun r8 =>
   bif !r8.1 then
    some true
   else Option.bind (g_iAnswerOk (a0, x7.2)) fun r9 =>
   some !r9.1 : Option (Bool)) fun x10 =>
  bif x10 then
   some (((0 : Int), false, [], [], false), ())
  else some ((x7.2.1, x7.2.2.1, x7.2.2.2.1, x7.2.2.2.2, true), ()) := by kernel_rfl
/- laws.eqEdge -/
def c_leqEdge : TC :=
 (.seq (.rg [o1 2 (.a (.t 0)),
   o1 3 (.a (.t 1)),
   o1 4 (.lit [.b] [.bool false])])
 (.seq (.seq (.rg [o1 5 (.idx .nil),
   o1 6 (.load 2 [] 0 (.t 5) 1 false),
   o1 7 (.idx .nil),
   o1 8 (.load 3 [] 0 (.t 7) 1 false),
   o1 9 (.data (.bin .neq) [.t 6, .t 8])])
 (.cond (.t 9)
  (.seq (.rg [o1 4 (.lit [.b] [.bool false])])
  .ret)
  .skip))
 (.seq (.seq (.rg [o1 10 (.idx .nil),
   o1 11 (.load 2 [] 1 (.t 10) 1 false),
   o1 12 (.idx .nil),
   o1 13 (.load 3 [] 1 (.t 12) 1 false),
   o1 14 (.data (.bin .neq) [.t 11, .t 13])])
 (.cond (.t 14)
  (.seq (.rg [o1 4 (.lit [.b] [.bool false])])
  .ret)
  .skip))
 (.seq (.rg [o1 4 (.lit [.b] [.bool true])])
 .ret))))
def s_leqEdge : Sig := ⟨[.rd true [.d, .d], .rd true [.d, .d]], (.one false [.d])⟩
noncomputable def E_leqEdge : TEnv := envOf []
noncomputable def f_leqEdge (n : Nat) : (Int × Int) × (Int × Int) → Option ((Bool) × Unit) := runFn n E_leqEdge c_leqEdge [[.i .i64, .i .i64], [.i .i64, .i .i64]] [.b] [] [4] .no
noncomputable def g_leqEdge := f_leqEdge BIG
noncomputable def p_leqEdge : TSp := ⟨s_leqEdge, [[.i .i64, .i .i64], [.i .i64, .i .i64]], [.b], [], Ou.j .no, g_leqEdge⟩
theorem k_leqEdge : chkW PG E_leqEdge 174 s_leqEdge (c_leqEdge.ht 15) .no = some (c_leqEdge.wc E_leqEdge, [4]) := by kernel_rfl
theorem ok_leqEdge : p_leqEdge.Ok PG 174 := mkOk (env_nil PG) k_leqEdge (by kernel_rfl)
theorem e_leqEdge (n : Nat) (a0 : Int × Int) (a1 : Int × Int) : f_leqEdge n (a0, a1) =
  bif !decide (a0.1 = a1.1) then
   some (false, ())
  else bif !decide (a0.2 = a1.2) then
   some (false, ())
  else some (true, ()) := by kernel_rfl
/- laws.eqEdgeS -/
def c_leqEdgeS : TC :=
 (.seq (.rg [o1 4 (.lit [.b] [.bool false])])
 (.seq (.seq (.rg [o1 6 (.copy 0),
   o1 7 (.len 6),
   o1 8 (.copy 1),
   o1 9 (.len 8),
   o1 10 (.data (.bin .neq) [.t 7, .t 9])])
 (.cond (.t 10)
  (.seq (.rg [o1 4 (.lit [.b] [.bool false])])
  .ret)
  .skip))
 (.seq (.join [] 134215728 (some [⟨4, [.b], false⟩]) (.seq (.rg [o1 5 (.lit [.i .i64] [.int .i64 (0)])])
 (.block 0 (.loop [⟨5, [.i .i64], false⟩] 134215728
  (.seq (.seq (.rg [o1 11 (.copy 5),
    o1 12 (.copy 0),
    o1 13 (.len 12),
    o1 14 (.data (.bin .lss) [.t 11, .t 13])])
  (.cond (.t 14)
   .skip
   (.exit 0)))
  (.seq (.block 1 (.seq (.rg [o1 17 (.copy 0),
    o1 18 (.copy 5),
    o1 19 (.index 17 (.t 18)),
    o1 20 (.load 17 [(0, 2)] 0 (.t 19) 2 false),
    o1 21 (.copy 1),
    o1 22 (.copy 5),
    o1 23 (.index 21 (.t 22)),
    o1 24 (.load 21 [(0, 2)] 0 (.t 23) 2 false),
    o3 25 174 [.t 20, .t 24],
    o1 26 (.data .not [.t 25])])
  (.cond (.t 26)
   (.seq (.rg [o1 4 (.lit [.b] [.bool false])])
   .ret)
   .skip)))
  (.rg [o1 15 (.copy 5),
    o1 16 (.data (.bin .add) [.t 15, .c (.int .i64 (1))]),
    o1 5 (.copy 16)])))))))
 (.seq (.rg [o1 4 (.lit [.b] [.bool true])])
 .ret))))
def s_leqEdgeS : Sig := ⟨[.rd false [.sl (.own none) [.d, .d]], .rd false [.sl (.own none) [.d, .d]]], (.one false [.d])⟩
noncomputable def E_leqEdgeS : TEnv := envOf [(174, p_leqEdge)]
noncomputable def f_leqEdgeS (n : Nat) : (List (Int × Int)) × (List (Int × Int)) → Option ((Bool) × Unit) := runFn n E_leqEdgeS c_leqEdgeS [[.sl [.i .i64, .i .i64]], [.sl [.i .i64, .i .i64]]] [.b] [] [4] .no
noncomputable def g_leqEdgeS := f_leqEdgeS BIG
noncomputable def p_leqEdgeS : TSp := ⟨s_leqEdgeS, [[.sl [.i .i64, .i .i64]], [.sl [.i .i64, .i .i64]]], [.b], [], Ou.j .no, g_leqEdgeS⟩
theorem k_leqEdgeS : chkW PG E_leqEdgeS 41 s_leqEdgeS (c_leqEdgeS.ht 27) .no = some (c_leqEdgeS.wc E_leqEdgeS, [4]) := by kernel_rfl
theorem ok_leqEdgeS : p_leqEdgeS.Ok PG 41 := mkOk (env_cons ok_leqEdge (env_nil PG)) k_leqEdgeS (by kernel_rfl)
theorem e_leqEdgeS (n : Nat) (a0 : List (Int × Int)) (a1 : List (Int × Int)) : f_leqEdgeS n (a0, a1) =
  bif !decide ((a0.length : Int) = (a1.length : Int)) then
   some (false, ())
  else Option.bind (loopT n (X := Int) (B := (Unit) ⊕ (Bool)) (fun self1 x0 =>
    bif decide (x0 < (a0.length : Int)) then
     bnd a0.length x0 fun n2 =>
     Option.bind a0[n2]? fun y3 =>
     bnd a1.length x0 fun n4 =>
     Option.bind a1[n4]? fun y5 =>
     Option.bind (g_leqEdge (y3, y5)) fun r6 =>
     bif !r6.1 then
      some (Sum.inr false)
     else self1 (IntKind.wrap .i64 (x0 + (1 : Int)))
    else some (Sum.inl ())) (0 : Int) : Option ((Unit) ⊕ (Bool))) fun y => match y with
  | .inl x7 =>
   some (true, ())
  | .inr x7 =>
   some (x7, ()) := by kernel_rfl
/- laws.eqIntS -/
def c_leqIntS : TC :=
 (.seq (.rg [o1 4 (.lit [.b] [.bool false])])
 (.seq (.seq (.rg [o1 6 (.copy 0),
   o1 7 (.len 6),
   o1 8 (.copy 1),
   o1 9 (.len 8),
   o1 10 (.data (.bin .neq) [.t 7, .t 9])])
 (.cond (.t 10)
  (.seq (.rg [o1 4 (.lit [.b] [.bool false])])
  .ret)
  .skip))
 (.seq (.join [] 67106864 (some [⟨4, [.b], false⟩]) (.seq (.rg [o1 5 (.lit [.i .i64] [.int .i64 (0)])])
 (.block 0 (.loop [⟨5, [.i .i64], false⟩] 67106864
  (.seq (.seq (.rg [o1 11 (.copy 5),
    o1 12 (.copy 0),
    o1 13 (.len 12),
    o1 14 (.data (.bin .lss) [.t 11, .t 13])])
  (.cond (.t 14)
   .skip
   (.exit 0)))
  (.seq (.block 1 (.seq (.rg [o1 17 (.copy 0),
    o1 18 (.copy 5),
    o1 19 (.index 17 (.t 18)),
    o1 20 (.load 17 [(0, 1)] 0 (.t 19) 1 false),
    o1 21 (.copy 1),
    o1 22 (.copy 5),
    o1 23 (.index 21 (.t 22)),
    o1 24 (.load 21 [(0, 1)] 0 (.t 23) 1 false),
    o1 25 (.data (.bin .neq) [.t 20, .t 24])])
  (.cond (.t 25)
   (.seq (.rg [o1 4 (.lit [.b] [.bool false])])
   .ret)
   .skip)))
  (.rg [o1 15 (.copy 5),
    o1 16 (.data (.bin .add) [.t 15, .c (.int .i64 (1))]),
    o1 5 (.copy 16)])))))))
 (.seq (.rg [o1 4 (.lit [.b] [.bool true])])
 .ret))))
def s_leqIntS : Sig := ⟨[.rd false [.sl (.own none) [.d]], .rd false [.sl (.own none) [.d]]], (.one false [.d])⟩
noncomputable def E_leqIntS : TEnv := envOf []
noncomputable def f_leqIntS (n : Nat) : List (Int) × List (Int) → Option ((Bool) × Unit) := runFn n E_leqIntS c_leqIntS [[.sl [.i .i64]], [.sl [.i .i64]]] [.b] [] [4] .no
noncomputable def g_leqIntS := f_leqIntS BIG
noncomputable def p_leqIntS : TSp := ⟨s_leqIntS, [[.sl [.i .i64]], [.sl [.i .i64]]], [.b], [], Ou.j .no, g_leqIntS⟩
theorem k_leqIntS : chkW PG E_leqIntS 39 s_leqIntS (c_leqIntS.ht 26) .no = some (c_leqIntS.wc E_leqIntS, [4]) := by kernel_rfl
theorem ok_leqIntS : p_leqIntS.Ok PG 39 := mkOk (env_nil PG) k_leqIntS (by kernel_rfl)
theorem e_leqIntS (n : Nat) (a0 : List (Int)) (a1 : List (Int)) : f_leqIntS n (a0, a1) =
  bif !decide ((a0.length : Int) = (a1.length : Int)) then
   some (false, ())
  else Option.bind (loopT n (X := Int) (B := (Unit) ⊕ (Bool)) (fun self1 x0 =>
    bif decide (x0 < (a0.length : Int)) then
     bnd a0.length x0 fun n2 =>
     Option.bind a0[n2]? fun y3 =>
     bnd a1.length x0 fun n4 =>
     Option.bind a1[n4]? fun y5 =>
     bif !decide (y3 = y5) then
      some (Sum.inr false)
     else self1 (IntKind.wrap .i64 (x0 + (1 : Int)))
    else some (Sum.inl ())) (0 : Int) : Option ((Unit) ⊕ (Bool))) fun y => match y with
  | .inl x6 =>
   some (true, ())
  | .inr x6 =>
   some (x6, ()) := by kernel_rfl
/- laws.eqAnswer -/
def c_leqAnswer : TC :=
 (.seq (.rg [o1 2 (.a (.t 0)),
   o1 3 (.a (.t 1)),
   o1 4 (.lit [.b] [.bool false])])
 (.seq (.seq (.rg [o1 5 (.idx .nil),
   o1 6 (.load 2 [] 0 (.t 5) 1 false),
   o1 7 (.idx .nil),
   o1 8 (.load 3 [] 0 (.t 7) 1 false),
   o1 9 (.data (.bin .neq) [.t 6, .t 8])])
 (.cond (.t 9)
  (.seq (.rg [o1 4 (.lit [.b] [.bool false])])
  .ret)
  .skip))
 (.seq (.seq (.rg [o1 10 (.idx .nil),
   o1 11 (.load 2 [] 1 (.t 10) 1 false),
   o1 12 (.idx .nil),
   o1 13 (.load 3 [] 1 (.t 12) 1 false),
   o1 14 (.data (.beq true) [.t 11, .t 13])])
 (.cond (.t 14)
  (.seq (.rg [o1 4 (.lit [.b] [.bool false])])
  .ret)
  .skip))
 (.seq (.seq (.rg [o1 15 (.idx .nil),
   o1 16 (.load 2 [] 2 (.t 15) 1 false),
   o1 17 (.idx .nil),
   o1 18 (.load 3 [] 2 (.t 17) 1 false),
   o3 19 41 [.t 16, .t 18],
   o1 20 (.data .not [.t 19])])
 (.cond (.t 20)
  (.seq (.rg [o1 4 (.lit [.b] [.bool false])])
  .ret)
  .skip))
 (.seq (.seq (.rg [o1 21 (.idx .nil),
   o1 22 (.load 2 [] 3 (.t 21) 1 false),
   o1 23 (.idx .nil),
   o1 24 (.load 3 [] 3 (.t 23) 1 false),
   o3 25 39 [.t 22, .t 24],
   o1 26 (.data .not [.t 25])])
 (.cond (.t 26)
  (.seq (.rg [o1 4 (.lit [.b] [.bool false])])
  .ret)
  .skip))
 (.seq (.rg [o1 4 (.lit [.b] [.bool true])])
 .ret))))))
def s_leqAnswer : Sig := ⟨[.rd true [.d, .d, .sl (.own none) [.d, .d], .sl (.own none) [.d]], .rd true [.d, .d, .sl (.own none) [.d, .d], .sl (.own none) [.d]]], (.one false [.d])⟩
noncomputable def E_leqAnswer : TEnv := envOf [(41, p_leqEdgeS), (39, p_leqIntS)]
noncomputable def f_leqAnswer (n : Nat) : (Int × Bool × List (Int × Int) × List (Int)) × (Int × Bool × List (Int × Int) × List (Int)) → Option ((Bool) × Unit) := runFn n E_leqAnswer c_leqAnswer [[.i .i64, .b, .sl [.i .i64, .i .i64], .sl [.i .i64]], [.i .i64, .b, .sl [.i .i64, .i .i64], .sl [.i .i64]]] [.b] [] [4] .no
noncomputable def g_leqAnswer := f_leqAnswer BIG
noncomputable def p_leqAnswer : TSp := ⟨s_leqAnswer, [[.i .i64, .b, .sl [.i .i64, .i .i64], .sl [.i .i64]], [.i .i64, .b, .sl [.i .i64, .i .i64], .sl [.i .i64]]], [.b], [], Ou.j .no, g_leqAnswer⟩
theorem k_leqAnswer : chkW PG E_leqAnswer 73 s_leqAnswer (c_leqAnswer.ht 27) .no = some (c_leqAnswer.wc E_leqAnswer, [4]) := by kernel_rfl
theorem ok_leqAnswer : p_leqAnswer.Ok PG 73 := mkOk (env_cons ok_leqEdgeS (env_cons ok_leqIntS (env_nil PG))) k_leqAnswer (by kernel_rfl)
theorem e_leqAnswer (n : Nat) (a0 : Int × Bool × List (Int × Int) × List (Int)) (a1 : Int × Bool × List (Int × Int) × List (Int)) : f_leqAnswer n (a0, a1) =
  bif !decide (a0.1 = a1.1) then
   some (false, ())
  else bif !(a0.2.1 == a1.2.1) then
   some (false, ())
  else Option.bind (g_leqEdgeS (a0.2.2.1, a1.2.2.1)) fun r0 =>
  bif !r0.1 then
   some (false, ())
  else Option.bind (g_leqIntS (a0.2.2.2, a1.2.2.2)) fun r1 =>
  bif !r1.1 then
   some (false, ())
  else some (true, ()) := by kernel_rfl
/- laws.markEdgeS -/
def c_lmarkEdgeS : TC :=
 (.seq (.rg [o1 4 (.lit [.i .i64] [.int .i64 (0)])])
 (.seq (.join [⟨0, [.sl [.i .i64, .i .i64]], false⟩, ⟨1, [.i .i64], false⟩] 67108835 none (.seq (.rg [o1 5 (.lit [.i .i64] [.int .i64 (0)])])
 (.block 0 (.loop [⟨0, [.sl [.i .i64, .i .i64]], false⟩, ⟨1, [.i .i64], false⟩, ⟨5, [.i .i64], false⟩] 67108835
  (.seq (.seq (.rg [o1 6 (.copy 5),
    ⟨true, [], [], .det 1 (.copy 0), [7], (some 7), none⟩,
    o1 8 (.len 7),
    o1 9 (.data (.bin .lss) [.t 6, .t 8])])
  (.cond (.t 9)
   .skip
   (.exit 0)))
  (.seq (.block 1 (.seq (.rg [⟨true, [], [], .det 1 (.copy 0), [12], (some 12), none⟩,
    o1 13 (.copy 5),
    o1 14 (.copy 1),
    o1 15 (.index 12 (.t 13)),
    o1 16 (.idx (.t 15)),
    o4 1 [0, 7, 12] (.store 0 [(0, 2)] 0 (.t 16) (.t 14))])
  (.seq (.rg [o1 17 (.copy 1),
    o1 18 (.data (.bin .add) [.t 17, .c (.int .i64 (1))]),
    o1 1 (.copy 18)])
  (.seq (.rg [⟨true, [], [], .det 1 (.copy 0), [19], (some 19), none⟩,
    o1 20 (.copy 5),
    o1 21 (.copy 1),
    o1 22 (.index 19 (.t 20)),
    o1 23 (.idx (.t 22)),
    o4 1 [0, 19] (.store 0 [(0, 2)] 1 (.t 23) (.t 21))])
  (.rg [o1 24 (.copy 1),
    o1 25 (.data (.bin .add) [.t 24, .c (.int .i64 (1))]),
    o1 1 (.copy 25)])))))
  (.rg [o1 10 (.copy 5),
    o1 11 (.data (.bin .add) [.t 10, .c (.int .i64 (1))]),
    o1 5 (.copy 11)])))))))
 (.seq (.rg [o1 26 (.copy 1),
   o1 4 (.copy 26)])
 .ret)))
def s_lmarkEdgeS : Sig := ⟨[.mt false [.sl (.own none) [.d, .d]], .rd false [.d]], (.one false [.d])⟩
noncomputable def E_lmarkEdgeS : TEnv := envOf []
noncomputable def f_lmarkEdgeS (n : Nat) : (List (Int × Int)) × Int → Option ((Int) × List (Int × Int)) := runFn n E_lmarkEdgeS c_lmarkEdgeS [[.sl [.i .i64, .i .i64]], [.i .i64]] [.i .i64] [.sl [.i .i64, .i .i64]] [4] (.mt 0 0 0)
noncomputable def g_lmarkEdgeS := f_lmarkEdgeS BIG
noncomputable def p_lmarkEdgeS : TSp := ⟨s_lmarkEdgeS, [[.sl [.i .i64, .i .i64]], [.i .i64]], [.i .i64], [.sl [.i .i64, .i .i64]], Ou.j (.mt 0 0 0), g_lmarkEdgeS⟩
theorem k_lmarkEdgeS : chkW PG E_lmarkEdgeS 43 s_lmarkEdgeS (c_lmarkEdgeS.ht 27) (.mt 0 0 0) = some (c_lmarkEdgeS.wc E_lmarkEdgeS, [4]) := by kernel_rfl
theorem ok_lmarkEdgeS : p_lmarkEdgeS.Ok PG 43 := mkOk (env_nil PG) k_lmarkEdgeS (by kernel_rfl)
theorem e_lmarkEdgeS (n : Nat) (a0 : List (Int × Int)) (a1 : Int) : f_lmarkEdgeS n (a0, a1) =
  Option.bind (loopT n (X := (List (Int × Int)) × Int × Int) (B := (List (Int × Int)) × Int) (fun self1 x0 =>
    bif decide (x0.2.2 < (x0.1.length : Int)) then
     bnd x0.1.length x0.2.2 fun n2 =>
     Option.bind x0.1[n2]? fun y3 =>
     bnd (x0.1.set n2 (x0.2.1, y3.2)).length x0.2.2 fun n4 =>
     Option.bind (x0.1.set n2 (x0.2.1, y3.2))[n4]? fun y5 =>
     self1 ((x0.1.set n2 (x0.2.1, y3.2)).set n4 (y5.1, IntKind.wrap .i64 (x0.2.1 + (1 : Int))), IntKind.wrap .i64 ((IntKind.wrap .i64 (x0.2.1 + (1 : Int))) + (1 : Int)), IntKind.wrap .i64 (x0.2.2 + (1 : Int)))
    else some (x0.1, x0.2.1)) (a0, a1, (0 : Int)) : Option ((List (Int × Int)) × Int)) fun x6 =>
  some (x6.2, x6.1) := by kernel_rfl
/- laws.markIntS -/
def c_lmarkIntS : TC :=
 (.seq (.rg [o1 4 (.lit [.i .i64] [.int .i64 (0)])])
 (.seq (.join [⟨0, [.sl [.i .i64]], false⟩, ⟨1, [.i .i64], false⟩] 262115 none (.seq (.rg [o1 5 (.lit [.i .i64] [.int .i64 (0)])])
 (.block 0 (.loop [⟨0, [.sl [.i .i64]], false⟩, ⟨1, [.i .i64], false⟩, ⟨5, [.i .i64], false⟩] 262115
  (.seq (.seq (.rg [o1 6 (.copy 5),
    ⟨true, [], [], .det 1 (.copy 0), [7], (some 7), none⟩,
    o1 8 (.len 7),
    o1 9 (.data (.bin .lss) [.t 6, .t 8])])
  (.cond (.t 9)
   .skip
   (.exit 0)))
  (.seq (.block 1 (.seq (.rg [⟨true, [], [], .det 1 (.copy 0), [12], (some 12), none⟩,
    o1 13 (.copy 5),
    o1 14 (.copy 1),
    o1 15 (.index 12 (.t 13)),
    o4 1 [0, 7, 12] (.store 0 [(0, 1)] 0 (.t 15) (.t 14))])
  (.rg [o1 16 (.copy 1),
    o1 17 (.data (.bin .add) [.t 16, .c (.int .i64 (1))]),
    o1 1 (.copy 17)])))
  (.rg [o1 10 (.copy 5),
    o1 11 (.data (.bin .add) [.t 10, .c (.int .i64 (1))]),
    o1 5 (.copy 11)])))))))
 (.seq (.rg [o1 18 (.copy 1),
   o1 4 (.copy 18)])
 .ret)))
def s_lmarkIntS : Sig := ⟨[.mt false [.sl (.own none) [.d]], .rd false [.d]], (.one false [.d])⟩
noncomputable def E_lmarkIntS : TEnv := envOf []
noncomputable def f_lmarkIntS (n : Nat) : List (Int) × Int → Option ((Int) × List (Int)) := runFn n E_lmarkIntS c_lmarkIntS [[.sl [.i .i64]], [.i .i64]] [.i .i64] [.sl [.i .i64]] [4] (.mt 0 0 0)
noncomputable def g_lmarkIntS := f_lmarkIntS BIG
noncomputable def p_lmarkIntS : TSp := ⟨s_lmarkIntS, [[.sl [.i .i64]], [.i .i64]], [.i .i64], [.sl [.i .i64]], Ou.j (.mt 0 0 0), g_lmarkIntS⟩
theorem k_lmarkIntS : chkW PG E_lmarkIntS 44 s_lmarkIntS (c_lmarkIntS.ht 19) (.mt 0 0 0) = some (c_lmarkIntS.wc E_lmarkIntS, [4]) := by kernel_rfl
theorem ok_lmarkIntS : p_lmarkIntS.Ok PG 44 := mkOk (env_nil PG) k_lmarkIntS (by kernel_rfl)
theorem e_lmarkIntS (n : Nat) (a0 : List (Int)) (a1 : Int) : f_lmarkIntS n (a0, a1) =
  Option.bind (loopT n (X := (List (Int)) × Int × Int) (B := (List (Int)) × Int) (fun self1 x0 =>
    bif decide (x0.2.2 < (x0.1.length : Int)) then
     bnd x0.1.length x0.2.2 fun n2 =>
     Option.bind x0.1[n2]? fun y3 =>
     self1 (x0.1.set n2 x0.2.1, IntKind.wrap .i64 (x0.2.1 + (1 : Int)), IntKind.wrap .i64 (x0.2.2 + (1 : Int)))
    else some (x0.1, x0.2.1)) (a0, a1, (0 : Int)) : Option ((List (Int)) × Int)) fun x4 =>
  some (x4.2, x4.1) := by kernel_rfl
/- laws.markAnswer -/
def c_lmarkAnswer : TC :=
 (.seq (.rg [⟨false, [], [], .det 2 (.a (.t 0)), [2, 0], (some 2), none⟩,
   o1 4 (.lit [.i .i64] [.int .i64 (0)])])
 (.seq (.rg [o1 5 (.idx .nil),
   o1 6 (.load 2 [] 2 (.t 5) 1 true),
   o1 7 (.copy 1),
   ⟨false, [], [], .call 2 43 [.t 6, .t 7] (.mt 2 [] 2 6 0), [8, 2, 6], (some 8), none⟩,
   o1 1 (.copy 8)])
 (.seq (.rg [o1 9 (.idx .nil),
   o1 10 (.load 2 [] 3 (.t 9) 1 true),
   o1 11 (.copy 1),
   ⟨false, [], [], .call 2 44 [.t 10, .t 11] (.mt 2 [] 3 10 0), [12, 2, 10], (some 12), none⟩,
   o1 1 (.copy 12)])
 (.seq (.rg [o1 13 (.copy 1),
   o1 4 (.copy 13)])
 .ret))))
def s_lmarkAnswer : Sig := ⟨[.mt true [.d, .d, .sl (.own none) [.d, .d], .sl (.own none) [.d]], .rd false [.d]], (.one false [.d])⟩
noncomputable def E_lmarkAnswer : TEnv := envOf [(43, p_lmarkEdgeS), (44, p_lmarkIntS)]
noncomputable def f_lmarkAnswer (n : Nat) : (Int × Bool × List (Int × Int) × List (Int)) × Int → Option ((Int) × Int × Bool × List (Int × Int) × List (Int)) := runFn n E_lmarkAnswer c_lmarkAnswer [[.i .i64, .b, .sl [.i .i64, .i .i64], .sl [.i .i64]], [.i .i64]] [.i .i64] [.i .i64, .b, .sl [.i .i64, .i .i64], .sl [.i .i64]] [4] (.mt 0 2 0)
noncomputable def g_lmarkAnswer := f_lmarkAnswer BIG
noncomputable def p_lmarkAnswer : TSp := ⟨s_lmarkAnswer, [[.i .i64, .b, .sl [.i .i64, .i .i64], .sl [.i .i64]], [.i .i64]], [.i .i64], [.i .i64, .b, .sl [.i .i64, .i .i64], .sl [.i .i64]], Ou.j (.mt 0 2 0), g_lmarkAnswer⟩
theorem k_lmarkAnswer : chkW PG E_lmarkAnswer 74 s_lmarkAnswer (c_lmarkAnswer.ht 14) (.mt 0 2 0) = some (c_lmarkAnswer.wc E_lmarkAnswer, [4]) := by kernel_rfl
theorem ok_lmarkAnswer : p_lmarkAnswer.Ok PG 74 := mkOk (env_cons ok_lmarkEdgeS (env_cons ok_lmarkIntS (env_nil PG))) k_lmarkAnswer (by kernel_rfl)
theorem e_lmarkAnswer (n : Nat) (a0 : Int × Bool × List (Int × Int) × List (Int)) (a1 : Int) : f_lmarkAnswer n (a0, a1) =
  Option.bind (g_lmarkEdgeS (a0.2.2.1, a1)) fun r0 =>
  Option.bind (g_lmarkIntS (a0.2.2.2, r0.1)) fun r1 =>
  some (r1.1, (a0.1, a0.2.1, r0.2, r1.2)) := by kernel_rfl
/- laws.heldEdgeS -/
def c_lheldEdgeS : TC :=
 (.seq (.rg [o1 4 (.lit [.i .i64] [.int .i64 (0)])])
 (.seq (.join [⟨1, [.i .i64], false⟩] 1073741810 (some [⟨4, [.i .i64], false⟩]) (.seq (.rg [o1 5 (.lit [.i .i64] [.int .i64 (0)])])
 (.block 0 (.loop [⟨1, [.i .i64], false⟩, ⟨5, [.i .i64], false⟩] 1073741810
  (.seq (.seq (.rg [o1 6 (.copy 5),
    o1 7 (.copy 0),
    o1 8 (.len 7),
    o1 9 (.data (.bin .lss) [.t 6, .t 8])])
  (.cond (.t 9)
   .skip
   (.exit 0)))
  (.seq (.block 1 (.seq (.seq (.rg [o1 12 (.copy 0),
    o1 13 (.copy 5),
    o1 14 (.index 12 (.t 13)),
    o1 15 (.idx (.t 14)),
    o1 16 (.load 12 [(0, 2)] 0 (.t 15) 1 false),
    o1 17 (.copy 1),
    o1 18 (.data (.bin .neq) [.t 16, .t 17])])
  (.cond (.t 18)
   (.seq (.rg [o1 4 (.lit [.i .i64] [.int .i64 (-1)])])
   .ret)
   .skip))
  (.seq (.rg [o1 19 (.copy 1),
    o1 20 (.data (.bin .add) [.t 19, .c (.int .i64 (1))]),
    o1 1 (.copy 20)])
  (.seq (.seq (.rg [o1 21 (.copy 0),
    o1 22 (.copy 5),
    o1 23 (.index 21 (.t 22)),
    o1 24 (.idx (.t 23)),
    o1 25 (.load 21 [(0, 2)] 1 (.t 24) 1 false),
    o1 26 (.copy 1),
    o1 27 (.data (.bin .neq) [.t 25, .t 26])])
  (.cond (.t 27)
   (.seq (.rg [o1 4 (.lit [.i .i64] [.int .i64 (-1)])])
   .ret)
   .skip))
  (.rg [o1 28 (.copy 1),
    o1 29 (.data (.bin .add) [.t 28, .c (.int .i64 (1))]),
    o1 1 (.copy 29)])))))
  (.rg [o1 10 (.copy 5),
    o1 11 (.data (.bin .add) [.t 10, .c (.int .i64 (1))]),
    o1 5 (.copy 11)])))))))
 (.seq (.rg [o1 30 (.copy 1),
   o1 4 (.copy 30)])
 .ret)))
def s_lheldEdgeS : Sig := ⟨[.rd false [.sl (.own none) [.d, .d]], .rd false [.d]], (.one false [.d])⟩
noncomputable def E_lheldEdgeS : TEnv := envOf []
noncomputable def f_lheldEdgeS (n : Nat) : (List (Int × Int)) × Int → Option ((Int) × Unit) := runFn n E_lheldEdgeS c_lheldEdgeS [[.sl [.i .i64, .i .i64]], [.i .i64]] [.i .i64] [] [4] .no
noncomputable def g_lheldEdgeS := f_lheldEdgeS BIG
noncomputable def p_lheldEdgeS : TSp := ⟨s_lheldEdgeS, [[.sl [.i .i64, .i .i64]], [.i .i64]], [.i .i64], [], Ou.j .no, g_lheldEdgeS⟩
theorem k_lheldEdgeS : chkW PG E_lheldEdgeS 63 s_lheldEdgeS (c_lheldEdgeS.ht 31) .no = some (c_lheldEdgeS.wc E_lheldEdgeS, [4]) := by kernel_rfl
theorem ok_lheldEdgeS : p_lheldEdgeS.Ok PG 63 := mkOk (env_nil PG) k_lheldEdgeS (by kernel_rfl)
theorem e_lheldEdgeS (n : Nat) (a0 : List (Int × Int)) (a1 : Int) : f_lheldEdgeS n (a0, a1) =
  Option.bind (loopT n (X := Int × Int) (B := (Int) ⊕ (Int)) (fun self1 x0 =>
    bif decide (x0.2 < (a0.length : Int)) then
     bnd a0.length x0.2 fun n2 =>
     Option.bind a0[n2]? fun y3 =>
     bif !decide (y3.1 = x0.1) then
      some (Sum.inr (-1 : Int))
     else bnd a0.length x0.2 fun n4 =>
     Option.bind a0[n4]? fun y5 =>
     bif !decide (y5.2 = (IntKind.wrap .i64 (x0.1 + (1 : Int)))) then
      some (Sum.inr (-1 : Int))
     else self1 (IntKind.wrap .i64 ((IntKind.wrap .i64 (x0.1 + (1 : Int))) + (1 : Int)), IntKind.wrap .i64 (x0.2 + (1 : Int)))
    else some (Sum.inl x0.1)) (a1, (0 : Int)) : Option ((Int) ⊕ (Int))) fun y => match y with
  | .inl x6 =>
   some (x6, ())
  | .inr x6 =>
   some (x6, ()) := by kernel_rfl
/- laws.heldIntS -/
def c_lheldIntS : TC :=
 (.seq (.rg [o1 4 (.lit [.i .i64] [.int .i64 (0)])])
 (.seq (.join [⟨1, [.i .i64], false⟩] 1048562 (some [⟨4, [.i .i64], false⟩]) (.seq (.rg [o1 5 (.lit [.i .i64] [.int .i64 (0)])])
 (.block 0 (.loop [⟨1, [.i .i64], false⟩, ⟨5, [.i .i64], false⟩] 1048562
  (.seq (.seq (.rg [o1 6 (.copy 5),
    o1 7 (.copy 0),
    o1 8 (.len 7),
    o1 9 (.data (.bin .lss) [.t 6, .t 8])])
  (.cond (.t 9)
   .skip
   (.exit 0)))
  (.seq (.block 1 (.seq (.seq (.rg [o1 12 (.copy 0),
    o1 13 (.copy 5),
    o1 14 (.index 12 (.t 13)),
    o1 15 (.load 12 [(0, 1)] 0 (.t 14) 1 false),
    o1 16 (.copy 1),
    o1 17 (.data (.bin .neq) [.t 15, .t 16])])
  (.cond (.t 17)
   (.seq (.rg [o1 4 (.lit [.i .i64] [.int .i64 (-1)])])
   .ret)
   .skip))
  (.rg [o1 18 (.copy 1),
    o1 19 (.data (.bin .add) [.t 18, .c (.int .i64 (1))]),
    o1 1 (.copy 19)])))
  (.rg [o1 10 (.copy 5),
    o1 11 (.data (.bin .add) [.t 10, .c (.int .i64 (1))]),
    o1 5 (.copy 11)])))))))
 (.seq (.rg [o1 20 (.copy 1),
   o1 4 (.copy 20)])
 .ret)))
def s_lheldIntS : Sig := ⟨[.rd false [.sl (.own none) [.d]], .rd false [.d]], (.one false [.d])⟩
noncomputable def E_lheldIntS : TEnv := envOf []
noncomputable def f_lheldIntS (n : Nat) : List (Int) × Int → Option ((Int) × Unit) := runFn n E_lheldIntS c_lheldIntS [[.sl [.i .i64]], [.i .i64]] [.i .i64] [] [4] .no
noncomputable def g_lheldIntS := f_lheldIntS BIG
noncomputable def p_lheldIntS : TSp := ⟨s_lheldIntS, [[.sl [.i .i64]], [.i .i64]], [.i .i64], [], Ou.j .no, g_lheldIntS⟩
theorem k_lheldIntS : chkW PG E_lheldIntS 45 s_lheldIntS (c_lheldIntS.ht 21) .no = some (c_lheldIntS.wc E_lheldIntS, [4]) := by kernel_rfl
theorem ok_lheldIntS : p_lheldIntS.Ok PG 45 := mkOk (env_nil PG) k_lheldIntS (by kernel_rfl)
theorem e_lheldIntS (n : Nat) (a0 : List (Int)) (a1 : Int) : f_lheldIntS n (a0, a1) =
  Option.bind (loopT n (X := Int × Int) (B := (Int) ⊕ (Int)) (fun self1 x0 =>
    bif decide (x0.2 < (a0.length : Int)) then
     bnd a0.length x0.2 fun n2 =>
     Option.bind a0[n2]? fun y3 =>
     bif !decide (y3 = x0.1) then
      some (Sum.inr (-1 : Int))
     else self1 (IntKind.wrap .i64 (x0.1 + (1 : Int)), IntKind.wrap .i64 (x0.2 + (1 : Int)))
    else some (Sum.inl x0.1)) (a1, (0 : Int)) : Option ((Int) ⊕ (Int))) fun y => match y with
  | .inl x4 =>
   some (x4, ())
  | .inr x4 =>
   some (x4, ()) := by kernel_rfl
/- laws.heldAnswer -/
def c_lheldAnswer : TC :=
 (.seq (.rg [o1 2 (.a (.t 0)),
   o1 4 (.lit [.i .i64] [.int .i64 (0)])])
 (.seq (.rg [o1 5 (.idx .nil),
   o1 6 (.load 2 [] 2 (.t 5) 1 false),
   o1 7 (.copy 1),
   o3 8 63 [.t 6, .t 7],
   o1 1 (.copy 8)])
 (.seq (.seq (.rg [o1 9 (.copy 1),
   o1 10 (.data (.bin .lss) [.t 9, .c (.int .i64 (0))])])
 (.cond (.t 10)
  (.seq (.rg [o1 4 (.lit [.i .i64] [.int .i64 (-1)])])
  .ret)
  .skip))
 (.seq (.rg [o1 11 (.idx .nil),
   o1 12 (.load 2 [] 3 (.t 11) 1 false),
   o1 13 (.copy 1),
   o3 14 45 [.t 12, .t 13],
   o1 1 (.copy 14)])
 (.seq (.seq (.rg [o1 15 (.copy 1),
   o1 16 (.data (.bin .lss) [.t 15, .c (.int .i64 (0))])])
 (.cond (.t 16)
  (.seq (.rg [o1 4 (.lit [.i .i64] [.int .i64 (-1)])])
  .ret)
  .skip))
 (.seq (.rg [o1 17 (.copy 1),
   o1 4 (.copy 17)])
 .ret))))))
def s_lheldAnswer : Sig := ⟨[.rd true [.d, .d, .sl (.own none) [.d, .d], .sl (.own none) [.d]], .rd false [.d]], (.one false [.d])⟩
noncomputable def E_lheldAnswer : TEnv := envOf [(63, p_lheldEdgeS), (45, p_lheldIntS)]
noncomputable def f_lheldAnswer (n : Nat) : (Int × Bool × List (Int × Int) × List (Int)) × Int → Option ((Int) × Unit) := runFn n E_lheldAnswer c_lheldAnswer [[.i .i64, .b, .sl [.i .i64, .i .i64], .sl [.i .i64]], [.i .i64]] [.i .i64] [] [4] .no
noncomputable def g_lheldAnswer := f_lheldAnswer BIG
noncomputable def p_lheldAnswer : TSp := ⟨s_lheldAnswer, [[.i .i64, .b, .sl [.i .i64, .i .i64], .sl [.i .i64]], [.i .i64]], [.i .i64], [], Ou.j .no, g_lheldAnswer⟩
theorem k_lheldAnswer : chkW PG E_lheldAnswer 75 s_lheldAnswer (c_lheldAnswer.ht 18) .no = some (c_lheldAnswer.wc E_lheldAnswer, [4]) := by kernel_rfl
theorem ok_lheldAnswer : p_lheldAnswer.Ok PG 75 := mkOk (env_cons ok_lheldEdgeS (env_cons ok_lheldIntS (env_nil PG))) k_lheldAnswer (by kernel_rfl)
theorem e_lheldAnswer (n : Nat) (a0 : Int × Bool × List (Int × Int) × List (Int)) (a1 : Int) : f_lheldAnswer n (a0, a1) =
  Option.bind (g_lheldEdgeS (a0.2.2.1, a1)) fun r0 =>
  bif decide (r0.1 < (0 : Int)) then
   some ((-1 : Int), ())
  else Option.bind (g_lheldIntS (a0.2.2.2, r0.1)) fun r1 =>
  bif decide (r1.1 < (0 : Int)) then
   some ((-1 : Int), ())
  else some (r1.1, ()) := by kernel_rfl
/- laws.FnExactReadAnswer -/
def c_lFnExactReadAnswer : TC :=
 (.seq (.rg [o1 4 (.lit [.b] [.bool false])])
 (.seq (.seq (.rg [o1 13 (.copy 1),
   o1 14 (.data .slen [.t 13]),
   o1 15 (.data (.bin .gtr) [.t 14, .c (.int .i64 (1048576))])])
 (.cond (.t 15)
  (.seq (.rg [o1 4 (.lit [.b] [.bool true])])
  .ret)
  .skip))
 (.seq (.rg [o1 17 (.copy 0),
   o1 18 (.copy 1),
   o3 19 71 [.t 17, .t 18],
   ⟨false, [], [], .det 2 (.copy 19), [16, 19], (some 16), none⟩,
   ⟨false, [], [], .det 2 (.ext 16 0 4), [20, 16], (some 20), none⟩,
   o1 21 (.ext 16 4 1),
   ⟨false, [], [], .det 2 (.a (.c [.i .i64, .b, .sl [.i .i64, .i .i64], .sl [.i .i64]] [.int .i64 (0), .bool false, .slice none 0 0, .slice none 0 0])), [5, 1000000001], (some 5), none⟩,
   o4 2 [5, 20] (.store 5 [] 0 .nil (.t 20)),
   o1 6 (.copy 21)])
 (.seq (.rg [o1 23 (.copy 0),
   o1 24 (.copy 1),
   o3 25 72 [.t 23, .t 24],
   ⟨false, [], [], .det 2 (.copy 25), [22, 25], (some 22), none⟩,
   ⟨false, [], [], .det 2 (.ext 22 0 4), [26, 22], (some 26), none⟩,
   o1 27 (.ext 22 4 1),
   ⟨false, [], [], .det 2 (.a (.c [.i .i64, .b, .sl [.i .i64, .i .i64], .sl [.i .i64]] [.int .i64 (0), .bool false, .slice none 0 0, .slice none 0 0])), [7, 1000000001], (some 7), none⟩,
   o4 2 [7, 26] (.store 7 [] 0 .nil (.t 26)),
   o1 8 (.copy 27)])
 (.seq (.seq (.join [⟨36, [.b], false⟩] 137170518016 none (.rg [o1 28 (.load 7 [] 0 .nil 4 true),
   o1 29 (.load 5 [] 0 .nil 4 true),
   o3 30 73 [.t 28, .t 29],
   o1 31 (.data .not [.t 30]),
   o1 32 (.copy 31),
   o2 33 (.copy 8) 4 false,
   o2 34 (.copy 6) 4 false,
   o2 35 (.data (.beq true) [.t 33, .t 34]) 4 false,
   ⟨false, [], [], .pick 32 (.c (.bool true)) (.t 35), [36], (some 36), none⟩]))
 (.cond (.t 36)
  (.seq (.rg [o1 4 (.lit [.b] [.bool false])])
  .ret)
  .skip))
 (.seq (.rg [o1 9 (.lit [.i .i64] [.int .i64 (1)])])
 (.seq (.rg [o1 37 (.load 7 [] 0 .nil 4 true),
   o1 38 (.copy 9),
   ⟨false, [], [], .call 2 74 [.t 37, .t 38] (.mt 7 [] 0 37 0), [39, 7, 28, 37], (some 39), none⟩,
   o1 9 (.copy 39)])
 (.seq (.rg [o1 10 (.lit [.i .i64] [.int .i64 (1)])])
 (.seq (.rg [o1 40 (.load 7 [] 0 .nil 4 true),
   o1 41 (.copy 10),
   o3 42 75 [.t 40, .t 41],
   o1 10 (.copy 42)])
 (.seq (.seq (.rg [o1 43 (.copy 10),
   o1 44 (.data (.bin .lss) [.t 43, .c (.int .i64 (0))])])
 (.cond (.t 44)
  (.seq (.rg [o1 4 (.lit [.b] [.bool false])])
  .ret)
  .skip))
 (.seq (.seq (.rg [o1 45 (.copy 10),
   o1 46 (.copy 9),
   o1 47 (.data (.bin .neq) [.t 45, .t 46])])
 (.cond (.t 47)
  (.seq (.rg [o1 4 (.lit [.b] [.bool false])])
  .ret)
  .skip))
 (.seq (.rg [o1 49 (.copy 0),
   o1 50 (.copy 1),
   o3 51 72 [.t 49, .t 50],
   ⟨false, [], [], .det 2 (.copy 51), [48, 51], (some 48), none⟩,
   ⟨false, [], [], .det 2 (.ext 48 0 4), [52, 48], (some 52), none⟩,
   o1 53 (.ext 48 4 1),
   ⟨false, [], [], .det 2 (.a (.c [.i .i64, .b, .sl [.i .i64, .i .i64], .sl [.i .i64]] [.int .i64 (0), .bool false, .slice none 0 0, .slice none 0 0])), [11, 1000000001], (some 11), none⟩,
   o4 2 [11, 52] (.store 11 [] 0 .nil (.t 52)),
   o1 12 (.copy 53)])
 (.seq (.seq (.join [⟨62, [.b], false⟩] 9205357638345293824 none (.rg [o1 54 (.load 11 [] 0 .nil 4 true),
   o1 55 (.load 5 [] 0 .nil 4 true),
   o3 56 73 [.t 54, .t 55],
   o1 57 (.data .not [.t 56]),
   o1 58 (.copy 57),
   o2 59 (.copy 12) 4 false,
   o2 60 (.copy 6) 4 false,
   o2 61 (.data (.beq true) [.t 59, .t 60]) 4 false,
   ⟨false, [], [], .pick 58 (.c (.bool true)) (.t 61), [62], (some 62), none⟩]))
 (.cond (.t 62)
  (.seq (.rg [o1 4 (.lit [.b] [.bool false])])
  .ret)
  .skip))
 (.seq (.rg [o1 10 (.lit [.i .i64] [.int .i64 (1)])])
 (.seq (.rg [o1 63 (.load 7 [] 0 .nil 4 true),
   o1 64 (.copy 10),
   o3 65 75 [.t 63, .t 64],
   o1 10 (.copy 65)])
 (.seq (.seq (.rg [o1 66 (.copy 10),
   o1 67 (.data (.bin .lss) [.t 66, .c (.int .i64 (0))])])
 (.cond (.t 67)
  (.seq (.rg [o1 4 (.lit [.b] [.bool false])])
  .ret)
  .skip))
 (.seq (.seq (.rg [o1 68 (.copy 10),
   o1 69 (.copy 9),
   o1 70 (.data (.bin .neq) [.t 68, .t 69])])
 (.cond (.t 70)
  (.seq (.rg [o1 4 (.lit [.b] [.bool false])])
  .ret)
  .skip))
 (.seq (.rg [o1 4 (.lit [.b] [.bool true])])
 .ret))))))))))))))))))
def s_lFnExactReadAnswer : Sig := ⟨[.rd false [.d], .rd false [.d]], (.one false [.d])⟩
noncomputable def E_lFnExactReadAnswer : TEnv := envOf [(71, p_sReadAnswer), (72, p_iReadAnswer), (73, p_leqAnswer), (74, p_lmarkAnswer), (75, p_lheldAnswer)]
noncomputable def f_lFnExactReadAnswer (n : Nat) : Int × ByteArray → Option ((Bool) × Unit) := runFn n E_lFnExactReadAnswer c_lFnExactReadAnswer [[.i .i64], [.s]] [.b] [] [4] .no
noncomputable def g_lFnExactReadAnswer := f_lFnExactReadAnswer BIG
noncomputable def p_lFnExactReadAnswer : TSp := ⟨s_lFnExactReadAnswer, [[.i .i64], [.s]], [.b], [], Ou.j .no, g_lFnExactReadAnswer⟩
theorem k_lFnExactReadAnswer : chkW PG E_lFnExactReadAnswer 11 s_lFnExactReadAnswer (c_lFnExactReadAnswer.ht 71) .no = some (c_lFnExactReadAnswer.wc E_lFnExactReadAnswer, [4]) := by kernel_rfl
theorem ok_lFnExactReadAnswer : p_lFnExactReadAnswer.Ok PG 11 := mkOk (env_cons ok_sReadAnswer (env_cons ok_iReadAnswer (env_cons ok_leqAnswer (env_cons ok_lmarkAnswer (env_cons ok_lheldAnswer (env_nil PG)))))) k_lFnExactReadAnswer (by kernel_rfl)
theorem e_lFnExactReadAnswer (n : Nat) (a0 : Int) (a1 : ByteArray) : f_lFnExactReadAnswer n (a0, a1) =
  bif decide ((1048576 : Int) < (a1.size : Int)) then
   some (true, ())
  else Option.bind (g_sReadAnswer (a0, a1)) fun r0 =>
  Option.bind (g_iReadAnswer (a0, a1)) fun r1 =>
  Option.bind (Option.bind (g_leqAnswer ((r1.1.1, r1.1.2.1, r1.1.2.2.1, r1.1.2.2.2.1), (r0.1.1, r0.1.2.1, r0.1.2.2.1, r0.1.2.2.2.1))) fun r2 =>
   bif !r2.1 then
    some true
   else some (!(r1.1.2.2.2.2 == r0.1.2.2.2.2)) : Option (Bool)) fun x3 =>
  bif x3 then
   some (false, ())
  else Option.bind (g_lmarkAnswer ((r1.1.1, r1.1.2.1, r1.1.2.2.1, r1.1.2.2.2.1), (1 : Int))) fun r4 =>
  Option.bind (g_lheldAnswer (r4.2, (1 : Int))) fun r5 =>
  bif decide (r5.1 < (0 : Int)) then
   some (false, ())
  else bif !decide (r5.1 = r4.1) then
   some (false, ())
  else Option.bind (g_iReadAnswer (a0, a1)) fun r6 =>
  Option.bind (Option.bind (g_leqAnswer ((r6.1.1, r6.1.2.1, r6.1.2.2.1, r6.1.2.2.2.1), (r0.1.1, r0.1.2.1, r0.1.2.2.1, r0.1.2.2.2.1))) fun r7 =>
   bif !r7.1 then
    some true
   else some (!(r6.1.2.2.2.2 == r0.1.2.2.2.2)) : Option (Bool)) fun x8 =>
  bif x8 then
   some (false, ())
  else Option.bind (g_lheldAnswer (r4.2, (1 : Int))) fun r9 =>
  bif decide (r9.1 < (0 : Int)) then
   some (false, ())
  else bif !decide (r9.1 = r4.1) then
   some (false, ())
  else some (true, ()) := by kernel_rfl
end Go.Fw
