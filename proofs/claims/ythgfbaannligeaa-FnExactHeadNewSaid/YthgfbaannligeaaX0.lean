/- The given functions, as what they compute; each is shown to be what the code does. No conditions. -/
import Derived.Test.YthgfbaannligeaaG4
import Derived.Test.YthgfbaannligeaaProg
set_option linter.unusedVariables false
set_option linter.unusedSimpArgs false
namespace Go.Fw
noncomputable abbrev PG := Go.Proofs.Try.prog
def o2 (d : Nat) (e : ED) (j : Nat) (b : Bool) : TO := ⟨false, [], [], .det 1 e, [d], some d, some (j, b)⟩
def o3 (d : Nat) (K : FuncId) (gets : List OY) : TO := ⟨false, [], [], .call 1 K gets .no, [d], some d, none⟩
def o4 (n : Nat) (ds : List Nat) (e : ED) : TO := ⟨false, [], [], .det n e, ds, none, none⟩
end Go.Fw
namespace Go.Fw
/- spec.l01In -/
def c_sl01In : TC :=
 (.seq (.rg [o1 6 (.lit [.b] [.bool false])])
 (.seq (.join [⟨6, [.b], false⟩] 32704 none (.rg [o1 7 (.copy 0),
   o1 8 (.copy 1),
   o1 9 (.data (.bin .geq) [.t 7, .t 8]),
   o1 10 (.copy 9),
   o2 11 (.copy 0) 3 true,
   o2 12 (.copy 2) 3 true,
   o2 13 (.data (.bin .leq) [.t 11, .t 12]) 3 true,
   ⟨false, [], [], .pick 10 (.t 13) (.c (.bool false)), [14], (some 14), none⟩,
   o1 6 (.copy 14)]))
 .ret))
def s_sl01In : Sig := ⟨[.rd false [.d], .rd false [.d], .rd false [.d]], (.one false [.d])⟩
noncomputable def E_sl01In : TEnv := envOf []
noncomputable def f_sl01In (n : Nat) : Int × Int × Int → Option ((Bool) × Unit) := runFn n E_sl01In c_sl01In [[.i .i64], [.i .i64], [.i .i64]] [.b] [] [6] .no
noncomputable def g_sl01In := f_sl01In BIG
noncomputable def p_sl01In : TSp := ⟨s_sl01In, [[.i .i64], [.i .i64], [.i .i64]], [.b], [], Ou.j .no, g_sl01In⟩
theorem k_sl01In : chkW PG E_sl01In 163 s_sl01In (c_sl01In.ht 15) .no = some (c_sl01In.wc E_sl01In, [6]) := by kernel_rfl
theorem ok_sl01In : p_sl01In.Ok PG 163 := mkOk (env_nil PG) k_sl01In (by kernel_rfl)
theorem e_sl01In (n : Nat) (a0 : Int) (a1 : Int) (a2 : Int) : f_sl01In n (a0, a1, a2) =
  Option.bind (bif decide (a1 ≤ a0) then
    some (decide (a0 ≤ a2))
   else some false : Option (Bool)) fun x0 =>
  some (x0, ()) := by kernel_rfl
/- spec.l05Labels -/
def c_sl05Labels : TC :=
 (.seq (.rg [o1 4 (.lit [.sl [.i .i64]] [.slice none 0 0])])
 (.seq (.rg [o1 11 (.sli [.i .i64] []),
   ⟨false, [], [], .det 2 (.copy 11), [5, 11], (some 5), none⟩])
 (.seq (.join [⟨5, [.sl [.i .i64]], false⟩] 2093152 none (.seq (.rg [o1 6 (.lit [.i .i64] [.int .i64 (0)])])
 (.block 0 (.loop [⟨5, [.sl [.i .i64]], false⟩, ⟨6, [.i .i64], false⟩] 2093152
  (.seq (.seq (.rg [o1 12 (.copy 6),
    o1 13 (.copy 0),
    o1 14 (.data (.bin .lss) [.t 12, .t 13])])
  (.cond (.t 14)
   .skip
   (.exit 0)))
  (.seq (.block 1 (.rg [⟨false, [], [], .det 2 (.copy 5), [17, 5], (some 17), none⟩,
    o1 18 (.copy 6),
    o1 19 (.sli [.i .i64] [.t 18]),
    ⟨false, [], [], .det 2 (.app (some 17) 19), [20, 17], (some 20), none⟩,
    ⟨false, [], [], .det 2 (.copy 20), [5, 20], (some 5), none⟩]))
  (.rg [o1 15 (.copy 6),
    o1 16 (.data (.bin .add) [.t 15, .c (.int .i64 (1))]),
    o1 6 (.copy 16)])))))))
 (.seq (.join [⟨5, [.sl [.i .i64]], false⟩] 1180591620717409208224 none (.seq (.rg [o1 7 (.lit [.i .i64] [.int .i64 (0)])])
 (.block 2 (.loop [⟨5, [.sl [.i .i64]], false⟩, ⟨7, [.i .i64], false⟩] 1180591620717409208224
  (.seq (.seq (.rg [o1 21 (.copy 7),
    o1 22 (.copy 0),
    o1 23 (.data (.bin .lss) [.t 21, .t 22])])
  (.cond (.t 23)
   .skip
   (.exit 2)))
  (.seq (.join [⟨5, [.sl [.i .i64]], false⟩] 1180591620717344196384 none (.block 3 (.seq (.rg [o1 8 (.lit [.i .i64] [.int .i64 (0)])])
  (.block 4 (.loop [⟨5, [.sl [.i .i64]], false⟩, ⟨8, [.i .i64], false⟩] 1180591620717344196384
   (.seq (.seq (.rg [o1 26 (.copy 8),
     o1 27 (.copy 1),
     o1 28 (.len 27),
     o1 29 (.data (.bin .lss) [.t 26, .t 28])])
   (.cond (.t 29)
    .skip
    (.exit 4)))
   (.seq (.join [⟨5, [.sl [.i .i64]], false⟩] 1180591620713116337696 none (.block 5 (.seq (.rg [⟨true, [], [], .det 1 (.copy 5), [32], (some 32), none⟩,
     o1 33 (.copy 1),
     o1 34 (.copy 8),
     o1 35 (.index 33 (.t 34)),
     o1 36 (.idx (.t 35)),
     o1 37 (.load 33 [(0, 2)] 0 (.t 36) 1 false),
     o1 38 (.index 32 (.t 37)),
     o1 39 (.load 5 [(0, 1)] 0 (.t 38) 1 false),
     o1 9 (.copy 39)])
   (.seq (.rg [⟨true, [], [], .det 1 (.copy 5), [40], (some 40), none⟩,
     o1 41 (.copy 1),
     o1 42 (.copy 8),
     o1 43 (.index 41 (.t 42)),
     o1 44 (.idx (.t 43)),
     o1 45 (.load 41 [(0, 2)] 1 (.t 44) 1 false),
     o1 46 (.index 40 (.t 45)),
     o1 47 (.load 5 [(0, 1)] 0 (.t 46) 1 false),
     o1 10 (.copy 47)])
   (.seq (.join [⟨5, [.sl [.i .i64]], false⟩] 576180381133307936 none (.seq (.rg [o1 48 (.copy 9),
     o1 49 (.copy 10),
     o1 50 (.data (.bin .lss) [.t 48, .t 49])])
   (.cond (.t 50)
    (.rg [⟨true, [], [], .det 1 (.copy 5), [51], (some 51), none⟩,
      o1 52 (.copy 1),
      o1 53 (.copy 8),
      o1 54 (.index 52 (.t 53)),
      o1 55 (.idx (.t 54)),
      o1 56 (.load 52 [(0, 2)] 1 (.t 55) 1 false),
      o1 57 (.copy 9),
      o1 58 (.index 51 (.t 56)),
      o4 1 [5, 32, 40, 51] (.store 5 [(0, 1)] 0 (.t 58) (.t 57))])
    .skip)))
   (.seq (.rg [o1 59 (.copy 10),
     o1 60 (.copy 9),
     o1 61 (.data (.bin .lss) [.t 59, .t 60])])
   (.cond (.t 61)
    (.rg [⟨true, [], [], .det 1 (.copy 5), [62], (some 62), none⟩,
      o1 63 (.copy 1),
      o1 64 (.copy 8),
      o1 65 (.index 63 (.t 64)),
      o1 66 (.idx (.t 65)),
      o1 67 (.load 63 [(0, 2)] 0 (.t 66) 1 false),
      o1 68 (.copy 10),
      o1 69 (.index 62 (.t 67)),
      o4 1 [5, 62] (.store 5 [(0, 1)] 0 (.t 69) (.t 68))])
    .skip)))))))
   (.rg [o1 30 (.copy 8),
     o1 31 (.data (.bin .add) [.t 30, .c (.int .i64 (1))]),
     o1 8 (.copy 31)]))))))))
  (.rg [o1 24 (.copy 7),
    o1 25 (.data (.bin .add) [.t 24, .c (.int .i64 (1))]),
    o1 7 (.copy 25)])))))))
 (.seq (.rg [⟨false, [], [], .det 2 (.copy 5), [70, 5], (some 70), none⟩,
   ⟨false, [], [], .det 2 (.copy 70), [4, 70], (some 4), none⟩])
 .ret)))))
def s_sl05Labels : Sig := ⟨[.rd false [.d], .rd false [.sl (.own none) [.d, .d]]], (.one false [.sl (.own none) [.d]])⟩
noncomputable def E_sl05Labels : TEnv := envOf []
noncomputable def f_sl05Labels (n : Nat) : Int × (List (Int × Int)) → Option ((List (Int)) × Unit) := runFn n E_sl05Labels c_sl05Labels [[.i .i64], [.sl [.i .i64, .i .i64]]] [.sl [.i .i64]] [] [4] .no
noncomputable def g_sl05Labels := f_sl05Labels BIG
noncomputable def p_sl05Labels : TSp := ⟨s_sl05Labels, [[.i .i64], [.sl [.i .i64, .i .i64]]], [.sl [.i .i64]], [], Ou.j .no, g_sl05Labels⟩
theorem k_sl05Labels : chkW PG E_sl05Labels 168 s_sl05Labels (c_sl05Labels.ht 71) .no = some (c_sl05Labels.wc E_sl05Labels, [4]) := by kernel_rfl
theorem ok_sl05Labels : p_sl05Labels.Ok PG 168 := mkOk (env_nil PG) k_sl05Labels (by kernel_rfl)
theorem e_sl05Labels (n : Nat) (a0 : Int) (a1 : List (Int × Int)) : f_sl05Labels n (a0, a1) =
  Option.bind (loopT n (X := (List (Int)) × Int) (B := (List (Int))) (fun self1 x0 =>
    bif decide (x0.2 < a0) then
     bif decide (x0.1.length + [x0.2].length ≤ 4294967296) then
      self1 (x0.1 ++ [x0.2], IntKind.wrap .i64 (x0.2 + (1 : Int)))
     else none
    else some x0.1) ([], (0 : Int)) : Option ((List (Int)))) fun x2 =>
  Option.bind (loopT n (X := (List (Int)) × Int) (B := (List (Int))) (fun self4 x3 =>
    bif decide (x3.2 < a0) then
     Option.bind (loopT n (X := (List (Int)) × Int) (B := (List (Int))) (fun self6 x5 =>
       bif decide (x5.2 < (a1.length : Int)) then
        Option.bind (bnd a1.length x5.2 fun n7 =>
         Option.bind a1[n7]? fun y8 =>
         bnd x5.1.length y8.1 fun n9 =>
         Option.bind x5.1[n9]? fun y10 =>
         bnd a1.length x5.2 fun n11 =>
         Option.bind a1[n11]? fun y12 =>
         bnd x5.1.length y12.2 fun n13 =>
         Option.bind x5.1[n13]? fun y14 =>
         Option.bind (bif decide (y10 < y14) then
           bnd a1.length x5.2 fun n15 =>
           Option.bind a1[n15]? fun y16 =>
           bnd x5.1.length y16.2 fun n17 =>
           Option.bind x5.1[n17]? fun y18 =>
           some (x5.1.set n17 y10)
          else some x5.1 : Option ((List (Int)))) fun x19 =>
         bif decide (y14 < y10) then
          bnd a1.length x5.2 fun n20 =>
          Option.bind a1[n20]? fun y21 =>
          bnd x19.length y21.1 fun n22 =>
          Option.bind x19[n22]? fun y23 =>
          some (x19.set n22 y14)
         else some x19 : Option ((List (Int)))) fun x24 =>
        self6 (x24, IntKind.wrap .i64 (x5.2 + (1 : Int)))
       else some x5.1) (x3.1, (0 : Int)) : Option ((List (Int)))) fun x25 =>
     self4 (x25, IntKind.wrap .i64 (x3.2 + (1 : Int)))
    else some x3.1) (x2, (0 : Int)) : Option ((List (Int)))) fun x26 =>
  some (x26, ()) := by kernel_rfl
/- spec.HeadNew -/
def c_sHeadNew : TC :=
 (.seq (.rg [⟨false, [], [], .det 2 (.a (.c [.i .i64, .sl [.i .i64], .sl [.i .i64, .i .i64], .sl [.sl [.i .i64]], .sl [.i .i64], .i .i64, .i .i64, .i .i64, .i .i64, .i .i64, .i .i64, .i .i64, .sl [.i .i64, .i .i64], .i .i64, .sl [.i .i64, .i .i64, .i .i64, .i .i64, .i .i64, .i .i64]] [.int .i64 (0), .slice none 0 0, .slice none 0 0, .slice none 0 0, .slice none 0 0, .int .i64 (0), .int .i64 (0), .int .i64 (0), .int .i64 (0), .int .i64 (0), .int .i64 (0), .int .i64 (0), .slice none 0 0, .int .i64 (0), .slice none 0 0])), [4, 1000000001], (some 4), none⟩,
   o1 5 (.lit [.b] [.bool false])])
 (.seq (.seq (.join [⟨16, [.b], false⟩] 130560 none (.rg [o1 9 (.copy 0),
   o3 10 163 [.t 9, .c [.i .i64] [.int .i64 (1)], .c [.i .i64] [.int .i64 (12)]],
   o1 11 (.data .not [.t 10]),
   o1 12 (.copy 11),
   o2 13 (.copy 1) 3 false,
   ⟨false, [], [], .call 1 163 [.t 13, .c [.i .i64] [.int .i64 (1)], .c [.i .i64] [.int .i64 (3)]] .no, [14], (some 14), some (3, false)⟩,
   o2 15 (.data .not [.t 14]) 3 false,
   ⟨false, [], [], .pick 12 (.c (.bool true)) (.t 15), [16], (some 16), none⟩]))
 (.cond (.t 16)
  (.seq (.rg [o1 17 (.build [.i .i64, .sl [.i .i64], .sl [.i .i64, .i .i64], .sl [.sl [.i .i64]], .sl [.i .i64], .i .i64, .i .i64, .i .i64, .i .i64, .i .i64, .i .i64, .i .i64, .sl [.i .i64, .i .i64], .i .i64, .sl [.i .i64, .i .i64, .i .i64, .i .i64, .i .i64, .i .i64]] []),
    o4 2 [4, 17] (.store 4 [] 0 .nil (.t 17)),
    o1 5 (.lit [.b] [.bool false])])
  .ret)
  .skip))
 (.seq (.rg [o1 18 (.copy 0),
   o1 19 (.copy 1),
   o1 20 (.make (.t 19) [.i .i64]),
   ⟨false, [], [], .det 2 (.build [.i .i64, .sl [.i .i64], .sl [.i .i64, .i .i64], .sl [.sl [.i .i64]], .sl [.i .i64], .i .i64, .i .i64, .i .i64, .i .i64, .i .i64, .i .i64, .i .i64, .sl [.i .i64, .i .i64], .i .i64, .sl [.i .i64, .i .i64, .i .i64, .i .i64, .i .i64, .i .i64]] [(0, .t 18), (4, .t 20)]), [21, 20], (some 21), none⟩,
   ⟨false, [], [], .det 2 (.a (.c [.i .i64, .sl [.i .i64], .sl [.i .i64, .i .i64], .sl [.sl [.i .i64]], .sl [.i .i64], .i .i64, .i .i64, .i .i64, .i .i64, .i .i64, .i .i64, .i .i64, .sl [.i .i64, .i .i64], .i .i64, .sl [.i .i64, .i .i64, .i .i64, .i .i64, .i .i64, .i .i64]] [.int .i64 (0), .slice none 0 0, .slice none 0 0, .slice none 0 0, .slice none 0 0, .int .i64 (0), .int .i64 (0), .int .i64 (0), .int .i64 (0), .int .i64 (0), .int .i64 (0), .int .i64 (0), .slice none 0 0, .int .i64 (0), .slice none 0 0])), [6, 1000000001], (some 6), none⟩,
   o4 2 [6, 21] (.store 6 [] 0 .nil (.t 21))])
 (.seq (.join [⟨6, [.i .i64, .sl [.i .i64], .sl [.i .i64, .i .i64], .sl [.sl [.i .i64]], .sl [.i .i64], .i .i64, .i .i64, .i .i64, .i .i64, .i .i64, .i .i64, .i .i64, .sl [.i .i64, .i .i64], .i .i64, .sl [.i .i64, .i .i64, .i .i64, .i .i64, .i .i64, .i .i64]], false⟩] 68715282624 none (.seq (.rg [o1 7 (.lit [.i .i64] [.int .i64 (0)])])
 (.block 0 (.loop [⟨6, [.i .i64, .sl [.i .i64], .sl [.i .i64, .i .i64], .sl [.sl [.i .i64]], .sl [.i .i64], .i .i64, .i .i64, .i .i64, .i .i64, .i .i64, .i .i64, .i .i64, .sl [.i .i64, .i .i64], .i .i64, .sl [.i .i64, .i .i64, .i .i64, .i .i64, .i .i64, .i .i64]], false⟩, ⟨7, [.i .i64], false⟩] 68715282624
  (.seq (.seq (.rg [o1 22 (.copy 7),
    o1 23 (.copy 0),
    o1 24 (.data (.bin .lss) [.t 22, .t 23])])
  (.cond (.t 24)
   .skip
   (.exit 0)))
  (.seq (.block 1 (.rg [o1 27 (.idx .nil),
    o1 28 (.load 6 [] 1 (.t 27) 1 true),
    o1 29 (.copy 7),
    o1 30 (.copy 1),
    o1 31 (.data (.bin .rem) [.t 29, .t 30]),
    o1 32 (.data (.bin .add) [.c (.int .i64 (1)), .t 31]),
    o1 33 (.sli [.i .i64] [.t 32]),
    ⟨false, [28], [], .det 2 (.app (some 28) 33), [34, 28, 28, 6], (some 34), none⟩,
    o1 35 (.idx .nil),
    o4 2 [6, 34, 28] (.store 6 [] 1 (.t 35) (.t 34))]))
  (.rg [o1 25 (.copy 7),
    o1 26 (.data (.bin .add) [.t 25, .c (.int .i64 (1))]),
    o1 7 (.copy 26)])))))))
 (.seq (.join [⟨6, [.i .i64, .sl [.i .i64], .sl [.i .i64, .i .i64], .sl [.sl [.i .i64]], .sl [.i .i64], .i .i64, .i .i64, .i .i64, .i .i64, .i .i64, .i .i64, .i .i64, .sl [.i .i64, .i .i64], .i .i64, .sl [.i .i64, .i .i64, .i .i64, .i .i64, .i .i64, .i .i64]], false⟩] 562881233944896 none (.seq (.rg [o1 8 (.lit [.i .i64] [.int .i64 (0)])])
 (.block 2 (.loop [⟨6, [.i .i64, .sl [.i .i64], .sl [.i .i64, .i .i64], .sl [.sl [.i .i64]], .sl [.i .i64], .i .i64, .i .i64, .i .i64, .i .i64, .i .i64, .i .i64, .i .i64, .sl [.i .i64, .i .i64], .i .i64, .sl [.i .i64, .i .i64, .i .i64, .i .i64, .i .i64, .i .i64]], false⟩, ⟨8, [.i .i64], false⟩] 562881233944896
  (.seq (.seq (.rg [o1 36 (.copy 8),
    o1 37 (.copy 1),
    o1 38 (.data (.bin .lss) [.t 36, .t 37])])
  (.cond (.t 38)
   .skip
   (.exit 2)))
  (.seq (.block 3 (.rg [o1 41 (.idx .nil),
    o1 42 (.load 6 [] 3 (.t 41) 1 true),
    o1 43 (.copy 0),
    o1 44 (.sli [.i .i64, .i .i64] []),
    o3 45 168 [.t 43, .t 44],
    ⟨false, [], [], .det 2 (.sli [.sl [.i .i64]] [.t 45]), [46, 45], (some 46), none⟩,
    ⟨false, [42], [], .det 3 (.app (some 42) 46), [47, 42, 46, 42, 6], (some 47), none⟩,
    o1 48 (.idx .nil),
    o4 2 [6, 47, 42] (.store 6 [] 3 (.t 48) (.t 47))]))
  (.rg [o1 39 (.copy 8),
    o1 40 (.data (.bin .add) [.t 39, .c (.int .i64 (1))]),
    o1 8 (.copy 40)])))))))
 (.seq (.rg [o1 49 (.load 6 [] 0 .nil 15 true),
   ⟨false, [49], [], .det 2 (.store 4 [] 0 .nil (.t 49)), [4, 49, 49, 6], none, none⟩,
   o1 5 (.lit [.b] [.bool true])])
 .ret))))))
def s_sHeadNew : Sig := ⟨[.rd false [.d], .rd false [.d]], (.tup [(true, 15), (false, 1)] [.d, .sl (.own none) [.d], .sl (.own none) [.d, .d], .sl (.own none) [.sl (.own none) [.d]], .sl (.own none) [.d], .d, .d, .d, .d, .d, .d, .d, .sl (.own none) [.d, .d], .d, .sl (.own none) [.d, .d, .d, .d, .d, .d], .d])⟩
noncomputable def E_sHeadNew : TEnv := envOf [(163, p_sl01In), (168, p_sl05Labels)]
noncomputable def f_sHeadNew (n : Nat) : Int × Int → Option ((Int × List (Int) × List (Int × Int) × List (List (Int)) × List (Int) × Int × Int × Int × Int × Int × Int × Int × List (Int × Int) × Int × List (Int × Int × Int × Int × Int × Int) × Bool) × Unit) := runFn n E_sHeadNew c_sHeadNew [[.i .i64], [.i .i64]] [.i .i64, .sl [.i .i64], .sl [.i .i64, .i .i64], .sl [.sl [.i .i64]], .sl [.i .i64], .i .i64, .i .i64, .i .i64, .i .i64, .i .i64, .i .i64, .i .i64, .sl [.i .i64, .i .i64], .i .i64, .sl [.i .i64, .i .i64, .i .i64, .i .i64, .i .i64, .i .i64], .b] [] [4, 5] .no
noncomputable def g_sHeadNew := f_sHeadNew BIG
noncomputable def p_sHeadNew : TSp := ⟨s_sHeadNew, [[.i .i64], [.i .i64]], [.i .i64, .sl [.i .i64], .sl [.i .i64, .i .i64], .sl [.sl [.i .i64]], .sl [.i .i64], .i .i64, .i .i64, .i .i64, .i .i64, .i .i64, .i .i64, .i .i64, .sl [.i .i64, .i .i64], .i .i64, .sl [.i .i64, .i .i64, .i .i64, .i .i64, .i .i64, .i .i64], .b], [], Ou.j .no, g_sHeadNew⟩
theorem k_sHeadNew : chkW PG E_sHeadNew 78 s_sHeadNew (c_sHeadNew.ht 50) .no = some (c_sHeadNew.wc E_sHeadNew, [4, 5]) := by kernel_rfl
theorem ok_sHeadNew : p_sHeadNew.Ok PG 78 := mkOk (env_cons ok_sl01In (env_cons ok_sl05Labels (env_nil PG))) k_sHeadNew (by kernel_rfl)
theorem e_sHeadNew (n : Nat) (a0 : Int) (a1 : Int) : f_sHeadNew n (a0, a1) =
  Option.bind (Option.bind (g_sl01In (a0, (1 : Int), (12 : Int))) fun r0 =>
   bif !r0.1 then
    some true
   else Option.bind (g_sl01In (a1, (1 : Int), (3 : Int))) fun r1 =>
   some !r1.1 : Option (Bool)) fun x2 =>
  bif x2 then
   some (((0 : Int), [], [], [], [], (0 : Int), (0 : Int), (0 : Int), (0 : Int), (0 : Int), (0 : Int), (0 : Int), [], (0 : Int), [], false), ())
  else bif decide (0 ≤ a1) then
   bif decide ((Int.toNat a1) ≤ 4294967296) then
    Option.bind (loopT n (X := (Int × List (Int) × List (Int × Int) × List ((List (Int))) × List (Int) × Int × Int × Int × Int × Int × Int × Int × List (Int × Int) × Int × List (Int × Int × Int × Int × Int × Int)) × Int) (B := (Int × List (Int) × List (Int × Int) × List ((List (Int))) × List (Int) × Int × Int × Int × Int × Int × Int × Int × List (Int × Int) × Int × List (Int × Int × Int × Int × Int × Int))) (fun self4 x3 =>
      bif decide (x3.2 < a0) then
       bif decide (a1 = 0) then
        none
       else bif decide (x3.1.2.1.length + ([IntKind.wrap .i64 ((1 : Int) + (Int.tmod x3.2 a1))]).length ≤ 4294967296) then
        self4 ((x3.1.1, x3.1.2.1 ++ ([IntKind.wrap .i64 ((1 : Int) + (Int.tmod x3.2 a1))]), x3.1.2.2), IntKind.wrap .i64 (x3.2 + (1 : Int)))
       else none
      else some x3.1) ((a0, [], [], [], List.replicate (Int.toNat a1) (0 : Int), (0 : Int), (0 : Int), (0 : Int), (0 : Int), (0 : Int), (0 : Int), (0 : Int), [], (0 : Int), []), (0 : Int)) : Option ((Int × List (Int) × List (Int × Int) × List ((List (Int))) × List (Int) × Int × Int × Int × Int × Int × Int × Int × List (Int × Int) × Int × List (Int × Int × Int × Int × Int × Int)))) fun x5 =>
    Option.bind (loopT n (X := (Int × List (Int) × List (Int × Int) × List ((List (Int))) × List (Int) × Int × Int × Int × Int × Int × Int × Int × List (Int × Int) × Int × List (Int × Int × Int × Int × Int × Int)) × Int) (B := (Int × List (Int) × List (Int × Int) × List ((List (Int))) × List (Int) × Int × Int × Int × Int × Int × Int × Int × List (Int × Int) × Int × List (Int × Int × Int × Int × Int × Int))) (fun self7 x6 =>
      bif decide (x6.2 < a1) then
       Option.bind (g_sl05Labels (a0, [])) fun r8 =>
       bif decide (x6.1.2.2.2.1.length + [r8.1].length ≤ 4294967296) then
        self7 ((x6.1.1, x6.1.2.1, x6.1.2.2.1, x6.1.2.2.2.1 ++ [r8.1], x6.1.2.2.2.2), IntKind.wrap .i64 (x6.2 + (1 : Int)))
       else none
      else some x6.1) (x5, (0 : Int)) : Option ((Int × List (Int) × List (Int × Int) × List ((List (Int))) × List (Int) × Int × Int × Int × Int × Int × Int × Int × List (Int × Int) × Int × List (Int × Int × Int × Int × Int × Int)))) fun x9 =>
    some ((x9.1, x9.2.1, x9.2.2.1, x9.2.2.2.1, x9.2.2.2.2.1, x9.2.2.2.2.2.1, x9.2.2.2.2.2.2.1, x9.2.2.2.2.2.2.2.1, x9.2.2.2.2.2.2.2.2.1, x9.2.2.2.2.2.2.2.2.2.1, x9.2.2.2.2.2.2.2.2.2.2.1, x9.2.2.2.2.2.2.2.2.2.2.2.1, x9.2.2.2.2.2.2.2.2.2.2.2.2.1, x9.2.2.2.2.2.2.2.2.2.2.2.2.2.1, x9.2.2.2.2.2.2.2.2.2.2.2.2.2.2, true), ())
   else none
  else none := by kernel_rfl
/- impl.in -/
def c_iin : TC :=
 (.seq (.rg [o1 6 (.lit [.b] [.bool false])])
 (.seq (.join [⟨6, [.b], false⟩] 32704 none (.rg [o1 7 (.copy 0),
   o1 8 (.copy 1),
   o1 9 (.data (.bin .geq) [.t 7, .t 8]),
   o1 10 (.copy 9),
   o2 11 (.copy 0) 3 true,
   o2 12 (.copy 2) 3 true,
   o2 13 (.data (.bin .leq) [.t 11, .t 12]) 3 true,
   ⟨false, [], [], .pick 10 (.t 13) (.c (.bool false)), [14], (some 14), none⟩,
   o1 6 (.copy 14)]))
 .ret))
def s_iin : Sig := ⟨[.rd false [.d], .rd false [.d], .rd false [.d]], (.one false [.d])⟩
noncomputable def E_iin : TEnv := envOf []
noncomputable def f_iin (n : Nat) : Int × Int × Int → Option ((Bool) × Unit) := runFn n E_iin c_iin [[.i .i64], [.i .i64], [.i .i64]] [.b] [] [6] .no
noncomputable def g_iin := f_iin BIG
noncomputable def p_iin : TSp := ⟨s_iin, [[.i .i64], [.i .i64], [.i .i64]], [.b], [], Ou.j .no, g_iin⟩
theorem k_iin : chkW PG E_iin 161 s_iin (c_iin.ht 15) .no = some (c_iin.wc E_iin, [6]) := by kernel_rfl
theorem ok_iin : p_iin.Ok PG 161 := mkOk (env_nil PG) k_iin (by kernel_rfl)
theorem e_iin (n : Nat) (a0 : Int) (a1 : Int) (a2 : Int) : f_iin n (a0, a1, a2) =
  Option.bind (bif decide (a1 ≤ a0) then
    some (decide (a0 ≤ a2))
   else some false : Option (Bool)) fun x0 =>
  some (x0, ()) := by kernel_rfl
/- impl.first -/
def c_ifirst : TC :=
 (.seq (.rg [o1 2 (.lit [.sl [.i .i64]] [.slice none 0 0])])
 (.seq (.rg [o1 3 (.lit [.sl [.i .i64]] [.slice none 0 0])])
 (.seq (.join [⟨3, [.sl [.i .i64]], false⟩] 16376 none (.seq (.rg [o1 5 (.copy 0),
   o1 6 (.lit [.i .i64] [.int .i64 (0)])])
 (.block 0 (.loop [⟨3, [.sl [.i .i64]], false⟩, ⟨6, [.i .i64], false⟩] 16344
  (.seq (.rg [o1 7 (.data (.bin .lss) [.t 6, .t 5])])
  (.seq (.cond (.t 7)
   .skip
   (.exit 0))
  (.seq (.block 1 (.seq (.rg [o1 8 (.copy 6),
    o1 4 (.copy 8)])
  (.rg [⟨false, [], [], .det 2 (.copy 3), [9, 3], (some 9), none⟩,
    o1 10 (.copy 4),
    o1 11 (.sli [.i .i64] [.t 10]),
    ⟨false, [], [], .det 2 (.app (some 9) 11), [12, 9], (some 12), none⟩,
    ⟨false, [], [], .det 2 (.copy 12), [3, 12], (some 3), none⟩])))
  (.rg [o1 13 (.data (.bin .add) [.t 6, .c (.int .i64 (1))]),
    o1 6 (.copy 13)]))))))))
 (.seq (.rg [⟨false, [], [], .det 2 (.copy 3), [14, 3], (some 14), none⟩,
   ⟨false, [], [], .det 2 (.copy 14), [2, 14], (some 2), none⟩])
 .ret))))
def s_ifirst : Sig := ⟨[.rd false [.d]], (.one false [.sl (.own none) [.d]])⟩
noncomputable def E_ifirst : TEnv := envOf []
noncomputable def f_ifirst (n : Nat) : Int → Option ((List (Int)) × Unit) := runFn n E_ifirst c_ifirst [[.i .i64]] [.sl [.i .i64]] [] [2] .no
noncomputable def g_ifirst := f_ifirst BIG
noncomputable def p_ifirst : TSp := ⟨s_ifirst, [[.i .i64]], [.sl [.i .i64]], [], Ou.j .no, g_ifirst⟩
theorem k_ifirst : chkW PG E_ifirst 171 s_ifirst (c_ifirst.ht 15) .no = some (c_ifirst.wc E_ifirst, [2]) := by kernel_rfl
theorem ok_ifirst : p_ifirst.Ok PG 171 := mkOk (env_nil PG) k_ifirst (by kernel_rfl)
theorem e_ifirst (n : Nat) (a0 : Int) : f_ifirst n a0 =
  Option.bind (loopT n (X := (List (Int)) × Int) (B := (List (Int))) (fun self1 x0 =>
    bif decide (x0.2 < a0) then
     bif decide (x0.1.length + [x0.2].length ≤ 4294967296) then
      self1 (x0.1 ++ [x0.2], IntKind.wrap .i64 (x0.2 + (1 : Int)))
     else none
    else some x0.1) ([], (0 : Int)) : Option ((List (Int)))) fun x2 =>
  some (x2, ()) := by kernel_rfl
/- impl.HeadNew -/
def c_iHeadNew : TC :=
 (.seq (.rg [⟨false, [], [], .det 2 (.a (.c [.i .i64, .sl [.i .i64], .sl [.i .i64, .i .i64], .sl [.sl [.i .i64]], .sl [.i .i64], .i .i64, .i .i64, .i .i64, .i .i64, .i .i64, .i .i64, .i .i64, .sl [.i .i64, .i .i64], .i .i64, .sl [.i .i64, .i .i64, .i .i64, .i .i64, .i .i64, .i .i64]] [.int .i64 (0), .slice none 0 0, .slice none 0 0, .slice none 0 0, .slice none 0 0, .int .i64 (0), .int .i64 (0), .int .i64 (0), .int .i64 (0), .int .i64 (0), .int .i64 (0), .int .i64 (0), .slice none 0 0, .int .i64 (0), .slice none 0 0])), [4, 1000000001], (some 4), none⟩,
   o1 5 (.lit [.b] [.bool false])])
 (.seq (.seq (.join [⟨15, [.b], false⟩] 65280 none (.rg [o1 8 (.copy 0),
   o3 9 161 [.t 8, .c [.i .i64] [.int .i64 (1)], .c [.i .i64] [.int .i64 (12)]],
   o1 10 (.data .not [.t 9]),
   o1 11 (.copy 10),
   o2 12 (.copy 1) 3 false,
   ⟨false, [], [], .call 1 161 [.t 12, .c [.i .i64] [.int .i64 (1)], .c [.i .i64] [.int .i64 (3)]] .no, [13], (some 13), some (3, false)⟩,
   o2 14 (.data .not [.t 13]) 3 false,
   ⟨false, [], [], .pick 11 (.c (.bool true)) (.t 14), [15], (some 15), none⟩]))
 (.cond (.t 15)
  (.seq (.rg [o1 16 (.build [.i .i64, .sl [.i .i64], .sl [.i .i64, .i .i64], .sl [.sl [.i .i64]], .sl [.i .i64], .i .i64, .i .i64, .i .i64, .i .i64, .i .i64, .i .i64, .i .i64, .sl [.i .i64, .i .i64], .i .i64, .sl [.i .i64, .i .i64, .i .i64, .i .i64, .i .i64, .i .i64]] []),
    o4 2 [4, 16] (.store 4 [] 0 .nil (.t 16)),
    o1 5 (.lit [.b] [.bool false])])
  .ret)
  .skip))
 (.seq (.rg [o1 17 (.copy 0),
   o1 18 (.build [.i .i64, .sl [.i .i64], .sl [.i .i64, .i .i64], .sl [.sl [.i .i64]], .sl [.i .i64], .i .i64, .i .i64, .i .i64, .i .i64, .i .i64, .i .i64, .i .i64, .sl [.i .i64, .i .i64], .i .i64, .sl [.i .i64, .i .i64, .i .i64, .i .i64, .i .i64, .i .i64]] [(0, .t 17)]),
   ⟨false, [], [], .det 2 (.a (.c [.i .i64, .sl [.i .i64], .sl [.i .i64, .i .i64], .sl [.sl [.i .i64]], .sl [.i .i64], .i .i64, .i .i64, .i .i64, .i .i64, .i .i64, .i .i64, .i .i64, .sl [.i .i64, .i .i64], .i .i64, .sl [.i .i64, .i .i64, .i .i64, .i .i64, .i .i64, .i .i64]] [.int .i64 (0), .slice none 0 0, .slice none 0 0, .slice none 0 0, .slice none 0 0, .int .i64 (0), .int .i64 (0), .int .i64 (0), .int .i64 (0), .int .i64 (0), .int .i64 (0), .int .i64 (0), .slice none 0 0, .int .i64 (0), .slice none 0 0])), [6, 1000000001], (some 6), none⟩,
   o4 2 [6, 18] (.store 6 [] 0 .nil (.t 18))])
 (.seq (.join [⟨6, [.i .i64, .sl [.i .i64], .sl [.i .i64, .i .i64], .sl [.sl [.i .i64]], .sl [.i .i64], .i .i64, .i .i64, .i .i64, .i .i64, .i .i64, .i .i64, .i .i64, .sl [.i .i64, .i .i64], .i .i64, .sl [.i .i64, .i .i64, .i .i64, .i .i64, .i .i64, .i .i64]], false⟩] 8589410496 none (.seq (.rg [o1 19 (.copy 0),
   o1 20 (.lit [.i .i64] [.int .i64 (0)])])
 (.block 0 (.loop [⟨6, [.i .i64, .sl [.i .i64], .sl [.i .i64, .i .i64], .sl [.sl [.i .i64]], .sl [.i .i64], .i .i64, .i .i64, .i .i64, .i .i64, .i .i64, .i .i64, .i .i64, .sl [.i .i64, .i .i64], .i .i64, .sl [.i .i64, .i .i64, .i .i64, .i .i64, .i .i64, .i .i64]], false⟩, ⟨20, [.i .i64], false⟩] 8588886208
  (.seq (.rg [o1 21 (.data (.bin .lss) [.t 20, .t 19])])
  (.seq (.cond (.t 21)
   .skip
   (.exit 0))
  (.seq (.block 1 (.seq (.rg [o1 22 (.copy 20),
    o1 7 (.copy 22)])
  (.rg [o1 23 (.idx .nil),
    o1 24 (.load 6 [] 1 (.t 23) 1 true),
    o1 25 (.copy 7),
    o1 26 (.copy 1),
    o1 27 (.data (.bin .rem) [.t 25, .t 26]),
    o1 28 (.data (.bin .add) [.c (.int .i64 (1)), .t 27]),
    o1 29 (.sli [.i .i64] [.t 28]),
    ⟨false, [24], [], .det 2 (.app (some 24) 29), [30, 24, 24, 6], (some 30), none⟩,
    o1 31 (.idx .nil),
    o4 2 [6, 30, 24] (.store 6 [] 1 (.t 31) (.t 30))])))
  (.rg [o1 32 (.data (.bin .add) [.t 20, .c (.int .i64 (1))]),
    o1 20 (.copy 32)]))))))))
 (.seq (.join [⟨6, [.i .i64, .sl [.i .i64], .sl [.i .i64, .i .i64], .sl [.sl [.i .i64]], .sl [.i .i64], .i .i64, .i .i64, .i .i64, .i .i64, .i .i64, .i .i64, .i .i64, .sl [.i .i64, .i .i64], .i .i64, .sl [.i .i64, .i .i64, .i .i64, .i .i64, .i .i64, .i .i64]], false⟩] 562941363486784 none (.seq (.rg [o1 33 (.copy 1),
   o1 34 (.lit [.i .i64] [.int .i64 (0)])])
 (.block 2 (.loop [⟨6, [.i .i64, .sl [.i .i64], .sl [.i .i64, .i .i64], .sl [.sl [.i .i64]], .sl [.i .i64], .i .i64, .i .i64, .i .i64, .i .i64, .i .i64, .i .i64, .i .i64, .sl [.i .i64, .i .i64], .i .i64, .sl [.i .i64, .i .i64, .i .i64, .i .i64, .i .i64, .i .i64]], false⟩, ⟨34, [.i .i64], false⟩] 562932773552192
  (.seq (.rg [o1 35 (.data (.bin .lss) [.t 34, .t 33])])
  (.seq (.cond (.t 35)
   .skip
   (.exit 2))
  (.seq (.block 3 (.seq (.rg [o1 36 (.idx .nil),
    o1 37 (.load 6 [] 3 (.t 36) 1 true),
    o1 38 (.copy 0),
    o3 39 171 [.t 38],
    ⟨false, [], [], .det 2 (.sli [.sl [.i .i64]] [.t 39]), [40, 39], (some 40), none⟩,
    ⟨false, [37], [], .det 3 (.app (some 37) 40), [41, 37, 40, 37, 6], (some 41), none⟩,
    o1 42 (.idx .nil),
    o4 2 [6, 41, 37] (.store 6 [] 3 (.t 42) (.t 41))])
  (.rg [o1 43 (.idx .nil),
    o1 44 (.load 6 [] 4 (.t 43) 1 true),
    ⟨false, [], [], .det 2 (.sli [.i .i64] [.c [.i .i64] [.int .i64 (0)]]), [45, 1000000001], (some 45), none⟩,
    ⟨false, [44], [], .det 2 (.app (some 44) 45), [46, 44, 44, 6], (some 46), none⟩,
    o1 47 (.idx .nil),
    o4 2 [6, 46, 44] (.store 6 [] 4 (.t 47) (.t 46))])))
  (.rg [o1 48 (.data (.bin .add) [.t 34, .c (.int .i64 (1))]),
    o1 34 (.copy 48)]))))))))
 (.seq (.rg [o1 49 (.load 6 [] 0 .nil 15 true),
   ⟨false, [49], [], .det 2 (.store 4 [] 0 .nil (.t 49)), [4, 49, 49, 6], none, none⟩,
   o1 5 (.lit [.b] [.bool true])])
 .ret))))))
def s_iHeadNew : Sig := ⟨[.rd false [.d], .rd false [.d]], (.tup [(true, 15), (false, 1)] [.d, .sl (.own none) [.d], .sl (.own none) [.d, .d], .sl (.own none) [.sl (.own none) [.d]], .sl (.own none) [.d], .d, .d, .d, .d, .d, .d, .d, .sl (.own none) [.d, .d], .d, .sl (.own none) [.d, .d, .d, .d, .d, .d], .d])⟩
noncomputable def E_iHeadNew : TEnv := envOf [(161, p_iin), (171, p_ifirst)]
noncomputable def f_iHeadNew (n : Nat) : Int × Int → Option ((Int × List (Int) × List (Int × Int) × List (List (Int)) × List (Int) × Int × Int × Int × Int × Int × Int × Int × List (Int × Int) × Int × List (Int × Int × Int × Int × Int × Int) × Bool) × Unit) := runFn n E_iHeadNew c_iHeadNew [[.i .i64], [.i .i64]] [.i .i64, .sl [.i .i64], .sl [.i .i64, .i .i64], .sl [.sl [.i .i64]], .sl [.i .i64], .i .i64, .i .i64, .i .i64, .i .i64, .i .i64, .i .i64, .i .i64, .sl [.i .i64, .i .i64], .i .i64, .sl [.i .i64, .i .i64, .i .i64, .i .i64, .i .i64, .i .i64], .b] [] [4, 5] .no
noncomputable def g_iHeadNew := f_iHeadNew BIG
noncomputable def p_iHeadNew : TSp := ⟨s_iHeadNew, [[.i .i64], [.i .i64]], [.i .i64, .sl [.i .i64], .sl [.i .i64, .i .i64], .sl [.sl [.i .i64]], .sl [.i .i64], .i .i64, .i .i64, .i .i64, .i .i64, .i .i64, .i .i64, .i .i64, .sl [.i .i64, .i .i64], .i .i64, .sl [.i .i64, .i .i64, .i .i64, .i .i64, .i .i64, .i .i64], .b], [], Ou.j .no, g_iHeadNew⟩
theorem k_iHeadNew : chkW PG E_iHeadNew 77 s_iHeadNew (c_iHeadNew.ht 50) .no = some (c_iHeadNew.wc E_iHeadNew, [4, 5]) := by kernel_rfl
theorem ok_iHeadNew : p_iHeadNew.Ok PG 77 := mkOk (env_cons ok_iin (env_cons ok_ifirst (env_nil PG))) k_iHeadNew (by kernel_rfl)
theorem e_iHeadNew (n : Nat) (a0 : Int) (a1 : Int) : f_iHeadNew n (a0, a1) =
  Option.bind (Option.bind (g_iin (a0, (1 : Int), (12 : Int))) fun r0 =>
   bif !r0.1 then
    some true
   else Option.bind (g_iin (a1, (1 : Int), (3 : Int))) fun r1 =>
   some !r1.1 : Option (Bool)) fun x2 =>
  bif x2 then
   some (((0 : Int), [], [], [], [], (0 : Int), (0 : Int), (0 : Int), (0 : Int), (0 : Int), (0 : Int), (0 : Int), [], (0 : Int), [], false), ())
  else Option.bind (loopT n (X := (Int × List (Int) × List (Int × Int) × List ((List (Int))) × List (Int) × Int × Int × Int × Int × Int × Int × Int × List (Int × Int) × Int × List (Int × Int × Int × Int × Int × Int)) × Int) (B := (Int × List (Int) × List (Int × Int) × List ((List (Int))) × List (Int) × Int × Int × Int × Int × Int × Int × Int × List (Int × Int) × Int × List (Int × Int × Int × Int × Int × Int))) (fun self4 x3 =>
    bif decide (x3.2 < a0) then
     bif decide (a1 = 0) then
      none
     else bif decide (x3.1.2.1.length + ([IntKind.wrap .i64 ((1 : Int) + (Int.tmod x3.2 a1))]).length ≤ 4294967296) then
      self4 ((x3.1.1, x3.1.2.1 ++ ([IntKind.wrap .i64 ((1 : Int) + (Int.tmod x3.2 a1))]), x3.1.2.2), IntKind.wrap .i64 (x3.2 + (1 : Int)))
     else none
    else some x3.1) ((a0, [], [], [], [], (0 : Int), (0 : Int), (0 : Int), (0 : Int), (0 : Int), (0 : Int), (0 : Int), [], (0 : Int), []), (0 : Int)) : Option ((Int × List (Int) × List (Int × Int) × List ((List (Int))) × List (Int) × Int × Int × Int × Int × Int × Int × Int × List (Int × Int) × Int × List (Int × Int × Int × Int × Int × Int)))) fun x5 =>
  Option.bind (loopT n (X := (Int × List (Int) × List (Int × Int) × List ((List (Int))) × List (Int) × Int × Int × Int × Int × Int × Int × Int × List (Int × Int) × Int × List (Int × Int × Int × Int × Int × Int)) × Int) (B := (Int × List (Int) × List (Int × Int) × List ((List (Int))) × List (Int) × Int × Int × Int × Int × Int × Int × Int × List (Int × Int) × Int × List (Int × Int × Int × Int × Int × Int))) (fun self7 x6 =>
    bif decide (x6.2 < a1) then
     Option.bind (g_ifirst a0) fun r8 =>
     bif decide (x6.1.2.2.2.1.length + [r8.1].length ≤ 4294967296) then
      bif decide (x6.1.2.2.2.2.1.length + ([(0 : Int)]).length ≤ 4294967296) then
       self7 ((x6.1.1, x6.1.2.1, x6.1.2.2.1, x6.1.2.2.2.1 ++ [r8.1], x6.1.2.2.2.2.1 ++ ([(0 : Int)]), x6.1.2.2.2.2.2), IntKind.wrap .i64 (x6.2 + (1 : Int)))
      else none
     else none
    else some x6.1) (x5, (0 : Int)) : Option ((Int × List (Int) × List (Int × Int) × List ((List (Int))) × List (Int) × Int × Int × Int × Int × Int × Int × Int × List (Int × Int) × Int × List (Int × Int × Int × Int × Int × Int)))) fun x9 =>
  some ((x9.1, x9.2.1, x9.2.2.1, x9.2.2.2.1, x9.2.2.2.2.1, x9.2.2.2.2.2.1, x9.2.2.2.2.2.2.1, x9.2.2.2.2.2.2.2.1, x9.2.2.2.2.2.2.2.2.1, x9.2.2.2.2.2.2.2.2.2.1, x9.2.2.2.2.2.2.2.2.2.2.1, x9.2.2.2.2.2.2.2.2.2.2.2.1, x9.2.2.2.2.2.2.2.2.2.2.2.2.1, x9.2.2.2.2.2.2.2.2.2.2.2.2.2.1, x9.2.2.2.2.2.2.2.2.2.2.2.2.2.2, true), ()) := by kernel_rfl
/- laws.eqIntS -/
def c_leqIntS : TC :=
 (.seq (.rg [o1 4 (.lit [.b] [.bool false])])
 (.seq (.seq (.rg [o1 6 (.copy 0),
   o1 7 (.len 6),
   o1 8 (.copy 1),
   o1 9 (.len 8),
   o1 10 (.data (.bin .neq) [.t 7, .t 9])])
 (.cond (.t 10)
  (.seq (.rg [o1 4 (.lit [.b] [.bool false])])
  .ret)
  .skip))
 (.seq (.join [] 67106864 (some [⟨4, [.b], false⟩]) (.seq (.rg [o1 5 (.lit [.i .i64] [.int .i64 (0)])])
 (.block 0 (.loop [⟨5, [.i .i64], false⟩] 67106864
  (.seq (.seq (.rg [o1 11 (.copy 5),
    o1 12 (.copy 0),
    o1 13 (.len 12),
    o1 14 (.data (.bin .lss) [.t 11, .t 13])])
  (.cond (.t 14)
   .skip
   (.exit 0)))
  (.seq (.block 1 (.seq (.rg [o1 17 (.copy 0),
    o1 18 (.copy 5),
    o1 19 (.index 17 (.t 18)),
    o1 20 (.load 17 [(0, 1)] 0 (.t 19) 1 false),
    o1 21 (.copy 1),
    o1 22 (.copy 5),
    o1 23 (.index 21 (.t 22)),
    o1 24 (.load 21 [(0, 1)] 0 (.t 23) 1 false),
    o1 25 (.data (.bin .neq) [.t 20, .t 24])])
  (.cond (.t 25)
   (.seq (.rg [o1 4 (.lit [.b] [.bool false])])
   .ret)
   .skip)))
  (.rg [o1 15 (.copy 5),
    o1 16 (.data (.bin .add) [.t 15, .c (.int .i64 (1))]),
    o1 5 (.copy 16)])))))))
 (.seq (.rg [o1 4 (.lit [.b] [.bool true])])
 .ret))))
def s_leqIntS : Sig := ⟨[.rd false [.sl (.own none) [.d]], .rd false [.sl (.own none) [.d]]], (.one false [.d])⟩
noncomputable def E_leqIntS : TEnv := envOf []
noncomputable def f_leqIntS (n : Nat) : List (Int) × List (Int) → Option ((Bool) × Unit) := runFn n E_leqIntS c_leqIntS [[.sl [.i .i64]], [.sl [.i .i64]]] [.b] [] [4] .no
noncomputable def g_leqIntS := f_leqIntS BIG
noncomputable def p_leqIntS : TSp := ⟨s_leqIntS, [[.sl [.i .i64]], [.sl [.i .i64]]], [.b], [], Ou.j .no, g_leqIntS⟩
theorem k_leqIntS : chkW PG E_leqIntS 39 s_leqIntS (c_leqIntS.ht 26) .no = some (c_leqIntS.wc E_leqIntS, [4]) := by kernel_rfl
theorem ok_leqIntS : p_leqIntS.Ok PG 39 := mkOk (env_nil PG) k_leqIntS (by kernel_rfl)
theorem e_leqIntS (n : Nat) (a0 : List (Int)) (a1 : List (Int)) : f_leqIntS n (a0, a1) =
  bif !decide ((a0.length : Int) = (a1.length : Int)) then
   some (false, ())
  else Option.bind (loopT n (X := Int) (B := (Unit) ⊕ (Bool)) (fun self1 x0 =>
    bif decide (x0 < (a0.length : Int)) then
     bnd a0.length x0 fun n2 =>
     Option.bind a0[n2]? fun y3 =>
     bnd a1.length x0 fun n4 =>
     Option.bind a1[n4]? fun y5 =>
     bif !decide (y3 = y5) then
      some (Sum.inr false)
     else self1 (IntKind.wrap .i64 (x0 + (1 : Int)))
    else some (Sum.inl ())) (0 : Int) : Option ((Unit) ⊕ (Bool))) fun y => match y with
  | .inl x6 =>
   some (true, ())
  | .inr x6 =>
   some (x6, ()) := by kernel_rfl
/- laws.eqEdge -/
def c_leqEdge : TC :=
 (.seq (.rg [o1 2 (.a (.t 0)),
   o1 3 (.a (.t 1)),
   o1 4 (.lit [.b] [.bool false])])
 (.seq (.seq (.rg [o1 5 (.idx .nil),
   o1 6 (.load 2 [] 0 (.t 5) 1 false),
   o1 7 (.idx .nil),
   o1 8 (.load 3 [] 0 (.t 7) 1 false),
   o1 9 (.data (.bin .neq) [.t 6, .t 8])])
 (.cond (.t 9)
  (.seq (.rg [o1 4 (.lit [.b] [.bool false])])
  .ret)
  .skip))
 (.seq (.seq (.rg [o1 10 (.idx .nil),
   o1 11 (.load 2 [] 1 (.t 10) 1 false),
   o1 12 (.idx .nil),
   o1 13 (.load 3 [] 1 (.t 12) 1 false),
   o1 14 (.data (.bin .neq) [.t 11, .t 13])])
 (.cond (.t 14)
  (.seq (.rg [o1 4 (.lit [.b] [.bool false])])
  .ret)
  .skip))
 (.seq (.rg [o1 4 (.lit [.b] [.bool true])])
 .ret))))
def s_leqEdge : Sig := ⟨[.rd true [.d, .d], .rd true [.d, .d]], (.one false [.d])⟩
noncomputable def E_leqEdge : TEnv := envOf []
noncomputable def f_leqEdge (n : Nat) : (Int × Int) × (Int × Int) → Option ((Bool) × Unit) := runFn n E_leqEdge c_leqEdge [[.i .i64, .i .i64], [.i .i64, .i .i64]] [.b] [] [4] .no
noncomputable def g_leqEdge := f_leqEdge BIG
noncomputable def p_leqEdge : TSp := ⟨s_leqEdge, [[.i .i64, .i .i64], [.i .i64, .i .i64]], [.b], [], Ou.j .no, g_leqEdge⟩
theorem k_leqEdge : chkW PG E_leqEdge 174 s_leqEdge (c_leqEdge.ht 15) .no = some (c_leqEdge.wc E_leqEdge, [4]) := by kernel_rfl
theorem ok_leqEdge : p_leqEdge.Ok PG 174 := mkOk (env_nil PG) k_leqEdge (by kernel_rfl)
theorem e_leqEdge (n : Nat) (a0 : Int × Int) (a1 : Int × Int) : f_leqEdge n (a0, a1) =
  bif !decide (a0.1 = a1.1) then
   some (false, ())
  else bif !decide (a0.2 = a1.2) then
   some (false, ())
  else some (true, ()) := by kernel_rfl
/- laws.eqEdgeS -/
def c_leqEdgeS : TC :=
 (.seq (.rg [o1 4 (.lit [.b] [.bool false])])
 (.seq (.seq (.rg [o1 6 (.copy 0),
   o1 7 (.len 6),
   o1 8 (.copy 1),
   o1 9 (.len 8),
   o1 10 (.data (.bin .neq) [.t 7, .t 9])])
 (.cond (.t 10)
  (.seq (.rg [o1 4 (.lit [.b] [.bool false])])
  .ret)
  .skip))
 (.seq (.join [] 134215728 (some [⟨4, [.b], false⟩]) (.seq (.rg [o1 5 (.lit [.i .i64] [.int .i64 (0)])])
 (.block 0 (.loop [⟨5, [.i .i64], false⟩] 134215728
  (.seq (.seq (.rg [o1 11 (.copy 5),
    o1 12 (.copy 0),
    o1 13 (.len 12),
    o1 14 (.data (.bin .lss) [.t 11, .t 13])])
  (.cond (.t 14)
   .skip
   (.exit 0)))
  (.seq (.block 1 (.seq (.rg [o1 17 (.copy 0),
    o1 18 (.copy 5),
    o1 19 (.index 17 (.t 18)),
    o1 20 (.load 17 [(0, 2)] 0 (.t 19) 2 false),
    o1 21 (.copy 1),
    o1 22 (.copy 5),
    o1 23 (.index 21 (.t 22)),
    o1 24 (.load 21 [(0, 2)] 0 (.t 23) 2 false),
    o3 25 174 [.t 20, .t 24],
    o1 26 (.data .not [.t 25])])
  (.cond (.t 26)
   (.seq (.rg [o1 4 (.lit [.b] [.bool false])])
   .ret)
   .skip)))
  (.rg [o1 15 (.copy 5),
    o1 16 (.data (.bin .add) [.t 15, .c (.int .i64 (1))]),
    o1 5 (.copy 16)])))))))
 (.seq (.rg [o1 4 (.lit [.b] [.bool true])])
 .ret))))
def s_leqEdgeS : Sig := ⟨[.rd false [.sl (.own none) [.d, .d]], .rd false [.sl (.own none) [.d, .d]]], (.one false [.d])⟩
noncomputable def E_leqEdgeS : TEnv := envOf [(174, p_leqEdge)]
noncomputable def f_leqEdgeS (n : Nat) : (List (Int × Int)) × (List (Int × Int)) → Option ((Bool) × Unit) := runFn n E_leqEdgeS c_leqEdgeS [[.sl [.i .i64, .i .i64]], [.sl [.i .i64, .i .i64]]] [.b] [] [4] .no
noncomputable def g_leqEdgeS := f_leqEdgeS BIG
noncomputable def p_leqEdgeS : TSp := ⟨s_leqEdgeS, [[.sl [.i .i64, .i .i64]], [.sl [.i .i64, .i .i64]]], [.b], [], Ou.j .no, g_leqEdgeS⟩
theorem k_leqEdgeS : chkW PG E_leqEdgeS 41 s_leqEdgeS (c_leqEdgeS.ht 27) .no = some (c_leqEdgeS.wc E_leqEdgeS, [4]) := by kernel_rfl
theorem ok_leqEdgeS : p_leqEdgeS.Ok PG 41 := mkOk (env_cons ok_leqEdge (env_nil PG)) k_leqEdgeS (by kernel_rfl)
theorem e_leqEdgeS (n : Nat) (a0 : List (Int × Int)) (a1 : List (Int × Int)) : f_leqEdgeS n (a0, a1) =
  bif !decide ((a0.length : Int) = (a1.length : Int)) then
   some (false, ())
  else Option.bind (loopT n (X := Int) (B := (Unit) ⊕ (Bool)) (fun self1 x0 =>
    bif decide (x0 < (a0.length : Int)) then
     bnd a0.length x0 fun n2 =>
     Option.bind a0[n2]? fun y3 =>
     bnd a1.length x0 fun n4 =>
     Option.bind a1[n4]? fun y5 =>
     Option.bind (g_leqEdge (y3, y5)) fun r6 =>
     bif !r6.1 then
      some (Sum.inr false)
     else self1 (IntKind.wrap .i64 (x0 + (1 : Int)))
    else some (Sum.inl ())) (0 : Int) : Option ((Unit) ⊕ (Bool))) fun y => match y with
  | .inl x7 =>
   some (true, ())
  | .inr x7 =>
   some (x7, ()) := by kernel_rfl
/- laws.eqIntSS -/
def c_leqIntSS : TC :=
 (.seq (.rg [o1 4 (.lit [.b] [.bool false])])
 (.seq (.seq (.rg [o1 6 (.copy 0),
   o1 7 (.len 6),
   o1 8 (.copy 1),
   o1 9 (.len 8),
   o1 10 (.data (.bin .neq) [.t 7, .t 9])])
 (.cond (.t 10)
  (.seq (.rg [o1 4 (.lit [.b] [.bool false])])
  .ret)
  .skip))
 (.seq (.join [] 134215728 (some [⟨4, [.b], false⟩]) (.seq (.rg [o1 5 (.lit [.i .i64] [.int .i64 (0)])])
 (.block 0 (.loop [⟨5, [.i .i64], false⟩] 134215728
  (.seq (.seq (.rg [o1 11 (.copy 5),
    o1 12 (.copy 0),
    o1 13 (.len 12),
    o1 14 (.data (.bin .lss) [.t 11, .t 13])])
  (.cond (.t 14)
   .skip
   (.exit 0)))
  (.seq (.block 1 (.seq (.rg [o1 17 (.copy 0),
    o1 18 (.copy 5),
    o1 19 (.index 17 (.t 18)),
    o1 20 (.load 17 [(0, 1)] 0 (.t 19) 1 false),
    o1 21 (.copy 1),
    o1 22 (.copy 5),
    o1 23 (.index 21 (.t 22)),
    o1 24 (.load 21 [(0, 1)] 0 (.t 23) 1 false),
    o3 25 39 [.t 20, .t 24],
    o1 26 (.data .not [.t 25])])
  (.cond (.t 26)
   (.seq (.rg [o1 4 (.lit [.b] [.bool false])])
   .ret)
   .skip)))
  (.rg [o1 15 (.copy 5),
    o1 16 (.data (.bin .add) [.t 15, .c (.int .i64 (1))]),
    o1 5 (.copy 16)])))))))
 (.seq (.rg [o1 4 (.lit [.b] [.bool true])])
 .ret))))
def s_leqIntSS : Sig := ⟨[.rd false [.sl (.own none) [.sl (.own none) [.d]]], .rd false [.sl (.own none) [.sl (.own none) [.d]]]], (.one false [.d])⟩
noncomputable def E_leqIntSS : TEnv := envOf [(39, p_leqIntS)]
noncomputable def f_leqIntSS (n : Nat) : List (List (Int)) × List (List (Int)) → Option ((Bool) × Unit) := runFn n E_leqIntSS c_leqIntSS [[.sl [.sl [.i .i64]]], [.sl [.sl [.i .i64]]]] [.b] [] [4] .no
noncomputable def g_leqIntSS := f_leqIntSS BIG
noncomputable def p_leqIntSS : TSp := ⟨s_leqIntSS, [[.sl [.sl [.i .i64]]], [.sl [.sl [.i .i64]]]], [.b], [], Ou.j .no, g_leqIntSS⟩
theorem k_leqIntSS : chkW PG E_leqIntSS 40 s_leqIntSS (c_leqIntSS.ht 27) .no = some (c_leqIntSS.wc E_leqIntSS, [4]) := by kernel_rfl
theorem ok_leqIntSS : p_leqIntSS.Ok PG 40 := mkOk (env_cons ok_leqIntS (env_nil PG)) k_leqIntSS (by kernel_rfl)
theorem e_leqIntSS (n : Nat) (a0 : List ((List (Int)))) (a1 : List ((List (Int)))) : f_leqIntSS n (a0, a1) =
  bif !decide ((a0.length : Int) = (a1.length : Int)) then
   some (false, ())
  else Option.bind (loopT n (X := Int) (B := (Unit) ⊕ (Bool)) (fun self1 x0 =>
    bif decide (x0 < (a0.length : Int)) then
     bnd a0.length x0 fun n2 =>
     Option.bind a0[n2]? fun y3 =>
     bnd a1.length x0 fun n4 =>
     Option.bind a1[n4]? fun y5 =>
     Option.bind (g_leqIntS (y3, y5)) fun r6 =>
     bif !r6.1 then
      some (Sum.inr false)
     else self1 (IntKind.wrap .i64 (x0 + (1 : Int)))
    else some (Sum.inl ())) (0 : Int) : Option ((Unit) ⊕ (Bool))) fun y => match y with
  | .inl x7 =>
   some (true, ())
  | .inr x7 =>
   some (x7, ()) := by kernel_rfl
/- laws.eqAsk -/
def c_leqAsk : TC :=
 (.seq (.rg [o1 2 (.a (.t 0)),
   o1 3 (.a (.t 1)),
   o1 4 (.lit [.b] [.bool false])])
 (.seq (.seq (.rg [o1 5 (.idx .nil),
   o1 6 (.load 2 [] 0 (.t 5) 1 false),
   o1 7 (.idx .nil),
   o1 8 (.load 3 [] 0 (.t 7) 1 false),
   o1 9 (.data (.bin .neq) [.t 6, .t 8])])
 (.cond (.t 9)
  (.seq (.rg [o1 4 (.lit [.b] [.bool false])])
  .ret)
  .skip))
 (.seq (.seq (.rg [o1 10 (.idx .nil),
   o1 11 (.load 2 [] 1 (.t 10) 1 false),
   o1 12 (.idx .nil),
   o1 13 (.load 3 [] 1 (.t 12) 1 false),
   o1 14 (.data (.bin .neq) [.t 11, .t 13])])
 (.cond (.t 14)
  (.seq (.rg [o1 4 (.lit [.b] [.bool false])])
  .ret)
  .skip))
 (.seq (.seq (.rg [o1 15 (.idx .nil),
   o1 16 (.load 2 [] 2 (.t 15) 1 false),
   o1 17 (.idx .nil),
   o1 18 (.load 3 [] 2 (.t 17) 1 false),
   o1 19 (.data (.bin .neq) [.t 16, .t 18])])
 (.cond (.t 19)
  (.seq (.rg [o1 4 (.lit [.b] [.bool false])])
  .ret)
  .skip))
 (.seq (.seq (.rg [o1 20 (.idx .nil),
   o1 21 (.load 2 [] 3 (.t 20) 1 false),
   o1 22 (.idx .nil),
   o1 23 (.load 3 [] 3 (.t 22) 1 false),
   o1 24 (.data (.bin .neq) [.t 21, .t 23])])
 (.cond (.t 24)
  (.seq (.rg [o1 4 (.lit [.b] [.bool false])])
  .ret)
  .skip))
 (.seq (.rg [o1 4 (.lit [.b] [.bool true])])
 .ret))))))
def s_leqAsk : Sig := ⟨[.rd true [.d, .d, .d, .d], .rd true [.d, .d, .d, .d]], (.one false [.d])⟩
noncomputable def E_leqAsk : TEnv := envOf []
noncomputable def f_leqAsk (n : Nat) : (Int × Int × Int × Int) × (Int × Int × Int × Int) → Option ((Bool) × Unit) := runFn n E_leqAsk c_leqAsk [[.i .i64, .i .i64, .i .i64, .i .i64], [.i .i64, .i .i64, .i .i64, .i .i64]] [.b] [] [4] .no
noncomputable def g_leqAsk := f_leqAsk BIG
noncomputable def p_leqAsk : TSp := ⟨s_leqAsk, [[.i .i64, .i .i64, .i .i64, .i .i64], [.i .i64, .i .i64, .i .i64, .i .i64]], [.b], [], Ou.j .no, g_leqAsk⟩
theorem k_leqAsk : chkW PG E_leqAsk 239 s_leqAsk (c_leqAsk.ht 25) .no = some (c_leqAsk.wc E_leqAsk, [4]) := by kernel_rfl
theorem ok_leqAsk : p_leqAsk.Ok PG 239 := mkOk (env_nil PG) k_leqAsk (by kernel_rfl)
theorem e_leqAsk (n : Nat) (a0 : Int × Int × Int × Int) (a1 : Int × Int × Int × Int) : f_leqAsk n (a0, a1) =
  bif !decide (a0.1 = a1.1) then
   some (false, ())
  else bif !decide (a0.2.1 = a1.2.1) then
   some (false, ())
  else bif !decide (a0.2.2.1 = a1.2.2.1) then
   some (false, ())
  else bif !decide (a0.2.2.2 = a1.2.2.2) then
   some (false, ())
  else some (true, ()) := by kernel_rfl
/- laws.eqOrder -/
def c_leqOrder : TC :=
 (.seq (.rg [o1 2 (.a (.t 0)),
   o1 3 (.a (.t 1)),
   o1 4 (.lit [.b] [.bool false])])
 (.seq (.seq (.rg [o1 5 (.idx .nil),
   o1 6 (.load 2 [] 0 (.t 5) 1 false),
   o1 7 (.idx .nil),
   o1 8 (.load 3 [] 0 (.t 7) 1 false),
   o1 9 (.data (.bin .neq) [.t 6, .t 8])])
 (.cond (.t 9)
  (.seq (.rg [o1 4 (.lit [.b] [.bool false])])
  .ret)
  .skip))
 (.seq (.seq (.rg [o1 10 (.idx .nil),
   o1 11 (.load 2 [] 1 (.t 10) 1 false),
   o1 12 (.idx .nil),
   o1 13 (.load 3 [] 1 (.t 12) 1 false),
   o1 14 (.data (.bin .neq) [.t 11, .t 13])])
 (.cond (.t 14)
  (.seq (.rg [o1 4 (.lit [.b] [.bool false])])
  .ret)
  .skip))
 (.seq (.seq (.rg [o1 15 (.idx .nil),
   o1 16 (.load 2 [] 2 (.t 15) 1 false),
   o1 17 (.idx .nil),
   o1 18 (.load 3 [] 2 (.t 17) 1 false),
   o3 19 41 [.t 16, .t 18],
   o1 20 (.data .not [.t 19])])
 (.cond (.t 20)
  (.seq (.rg [o1 4 (.lit [.b] [.bool false])])
  .ret)
  .skip))
 (.seq (.seq (.rg [o1 21 (.idx .nil),
   o1 22 (.load 2 [] 3 (.t 21) 1 false),
   o1 23 (.idx .nil),
   o1 24 (.load 3 [] 3 (.t 23) 1 false),
   o1 25 (.data (.bin .neq) [.t 22, .t 24])])
 (.cond (.t 25)
  (.seq (.rg [o1 4 (.lit [.b] [.bool false])])
  .ret)
  .skip))
 (.seq (.rg [o1 4 (.lit [.b] [.bool true])])
 .ret))))))
def s_leqOrder : Sig := ⟨[.rd true [.d, .d, .sl (.own none) [.d, .d], .d], .rd true [.d, .d, .sl (.own none) [.d, .d], .d]], (.one false [.d])⟩
noncomputable def E_leqOrder : TEnv := envOf [(41, p_leqEdgeS)]
noncomputable def f_leqOrder (n : Nat) : (Int × Int × List (Int × Int) × Int) × (Int × Int × List (Int × Int) × Int) → Option ((Bool) × Unit) := runFn n E_leqOrder c_leqOrder [[.i .i64, .i .i64, .sl [.i .i64, .i .i64], .i .i64], [.i .i64, .i .i64, .sl [.i .i64, .i .i64], .i .i64]] [.b] [] [4] .no
noncomputable def g_leqOrder := f_leqOrder BIG
noncomputable def p_leqOrder : TSp := ⟨s_leqOrder, [[.i .i64, .i .i64, .sl [.i .i64, .i .i64], .i .i64], [.i .i64, .i .i64, .sl [.i .i64, .i .i64], .i .i64]], [.b], [], Ou.j .no, g_leqOrder⟩
theorem k_leqOrder : chkW PG E_leqOrder 57 s_leqOrder (c_leqOrder.ht 26) .no = some (c_leqOrder.wc E_leqOrder, [4]) := by kernel_rfl
theorem ok_leqOrder : p_leqOrder.Ok PG 57 := mkOk (env_cons ok_leqEdgeS (env_nil PG)) k_leqOrder (by kernel_rfl)
theorem e_leqOrder (n : Nat) (a0 : Int × Int × List (Int × Int) × Int) (a1 : Int × Int × List (Int × Int) × Int) : f_leqOrder n (a0, a1) =
  bif !decide (a0.1 = a1.1) then
   some (false, ())
  else bif !decide (a0.2.1 = a1.2.1) then
   some (false, ())
  else Option.bind (g_leqEdgeS (a0.2.2.1, a1.2.2.1)) fun r0 =>
  bif !r0.1 then
   some (false, ())
  else bif !decide (a0.2.2.2 = a1.2.2.2) then
   some (false, ())
  else some (true, ()) := by kernel_rfl
/- laws.eqTask -/
def c_leqTask : TC :=
 (.seq (.rg [o1 2 (.a (.t 0)),
   o1 3 (.a (.t 1)),
   o1 4 (.lit [.b] [.bool false])])
 (.seq (.seq (.rg [o1 5 (.idx .nil),
   o1 6 (.load 2 [] 0 (.t 5) 4 false),
   o1 7 (.idx .nil),
   o1 8 (.load 3 [] 0 (.t 7) 4 false),
   o3 9 239 [.t 6, .t 8],
   o1 10 (.data .not [.t 9])])
 (.cond (.t 10)
  (.seq (.rg [o1 4 (.lit [.b] [.bool false])])
  .ret)
  .skip))
 (.seq (.seq (.rg [o1 11 (.idx .nil),
   o1 12 (.load 2 [] 4 (.t 11) 1 false),
   o1 13 (.idx .nil),
   o1 14 (.load 3 [] 4 (.t 13) 1 false),
   o1 15 (.data (.bin .neq) [.t 12, .t 14])])
 (.cond (.t 15)
  (.seq (.rg [o1 4 (.lit [.b] [.bool false])])
  .ret)
  .skip))
 (.seq (.seq (.rg [o1 16 (.idx .nil),
   o1 17 (.load 2 [] 5 (.t 16) 4 false),
   o1 18 (.idx .nil),
   o1 19 (.load 3 [] 5 (.t 18) 4 false),
   o3 20 57 [.t 17, .t 19],
   o1 21 (.data .not [.t 20])])
 (.cond (.t 21)
  (.seq (.rg [o1 4 (.lit [.b] [.bool false])])
  .ret)
  .skip))
 (.seq (.rg [o1 4 (.lit [.b] [.bool true])])
 .ret)))))
def s_leqTask : Sig := ⟨[.rd true [.d, .d, .d, .d, .d, .d, .d, .sl (.own none) [.d, .d], .d], .rd true [.d, .d, .d, .d, .d, .d, .d, .sl (.own none) [.d, .d], .d]], (.one false [.d])⟩
noncomputable def E_leqTask : TEnv := envOf [(239, p_leqAsk), (57, p_leqOrder)]
noncomputable def f_leqTask (n : Nat) : (Int × Int × Int × Int × Int × Int × Int × List (Int × Int) × Int) × (Int × Int × Int × Int × Int × Int × Int × List (Int × Int) × Int) → Option ((Bool) × Unit) := runFn n E_leqTask c_leqTask [[.i .i64, .i .i64, .i .i64, .i .i64, .i .i64, .i .i64, .i .i64, .sl [.i .i64, .i .i64], .i .i64], [.i .i64, .i .i64, .i .i64, .i .i64, .i .i64, .i .i64, .i .i64, .sl [.i .i64, .i .i64], .i .i64]] [.b] [] [4] .no
noncomputable def g_leqTask := f_leqTask BIG
noncomputable def p_leqTask : TSp := ⟨s_leqTask, [[.i .i64, .i .i64, .i .i64, .i .i64, .i .i64, .i .i64, .i .i64, .sl [.i .i64, .i .i64], .i .i64], [.i .i64, .i .i64, .i .i64, .i .i64, .i .i64, .i .i64, .i .i64, .sl [.i .i64, .i .i64], .i .i64]], [.b], [], Ou.j .no, g_leqTask⟩
theorem k_leqTask : chkW PG E_leqTask 199 s_leqTask (c_leqTask.ht 22) .no = some (c_leqTask.wc E_leqTask, [4]) := by kernel_rfl
theorem ok_leqTask : p_leqTask.Ok PG 199 := mkOk (env_cons ok_leqAsk (env_cons ok_leqOrder (env_nil PG))) k_leqTask (by kernel_rfl)
theorem e_leqTask (n : Nat) (a0 : Int × Int × Int × Int × Int × Int × Int × List (Int × Int) × Int) (a1 : Int × Int × Int × Int × Int × Int × Int × List (Int × Int) × Int) : f_leqTask n (a0, a1) =
  Option.bind (g_leqAsk ((a0.1, a0.2.1, a0.2.2.1, a0.2.2.2.1), (a1.1, a1.2.1, a1.2.2.1, a1.2.2.2.1))) fun r0 =>
  bif !r0.1 then
   some (false, ())
  else bif !decide (a0.2.2.2.2.1 = a1.2.2.2.2.1) then
   some (false, ())
  else Option.bind (g_leqOrder (a0.2.2.2.2.2, a1.2.2.2.2.2)) fun r1 =>
  bif !r1.1 then
   some (false, ())
  else some (true, ()) := by kernel_rfl
/- laws.eqSaid -/
def c_leqSaid : TC :=
 (.seq (.rg [o1 2 (.a (.t 0)),
   o1 3 (.a (.t 1)),
   o1 4 (.lit [.b] [.bool false])])
 (.seq (.seq (.rg [o1 5 (.idx .nil),
   o1 6 (.load 2 [] 0 (.t 5) 1 false),
   o1 7 (.idx .nil),
   o1 8 (.load 3 [] 0 (.t 7) 1 false),
   o1 9 (.data (.bin .neq) [.t 6, .t 8])])
 (.cond (.t 9)
  (.seq (.rg [o1 4 (.lit [.b] [.bool false])])
  .ret)
  .skip))
 (.seq (.seq (.rg [o1 10 (.idx .nil),
   o1 11 (.load 2 [] 1 (.t 10) 4 false),
   o1 12 (.idx .nil),
   o1 13 (.load 3 [] 1 (.t 12) 4 false),
   o3 14 239 [.t 11, .t 13],
   o1 15 (.data .not [.t 14])])
 (.cond (.t 15)
  (.seq (.rg [o1 4 (.lit [.b] [.bool false])])
  .ret)
  .skip))
 (.seq (.seq (.rg [o1 16 (.idx .nil),
   o1 17 (.load 2 [] 5 (.t 16) 1 false),
   o1 18 (.idx .nil),
   o1 19 (.load 3 [] 5 (.t 18) 1 false),
   o1 20 (.data (.bin .neq) [.t 17, .t 19])])
 (.cond (.t 20)
  (.seq (.rg [o1 4 (.lit [.b] [.bool false])])
  .ret)
  .skip))
 (.seq (.rg [o1 4 (.lit [.b] [.bool true])])
 .ret)))))
def s_leqSaid : Sig := ⟨[.rd true [.d, .d, .d, .d, .d, .d], .rd true [.d, .d, .d, .d, .d, .d]], (.one false [.d])⟩
noncomputable def E_leqSaid : TEnv := envOf [(239, p_leqAsk)]
noncomputable def f_leqSaid (n : Nat) : (Int × Int × Int × Int × Int × Int) × (Int × Int × Int × Int × Int × Int) → Option ((Bool) × Unit) := runFn n E_leqSaid c_leqSaid [[.i .i64, .i .i64, .i .i64, .i .i64, .i .i64, .i .i64], [.i .i64, .i .i64, .i .i64, .i .i64, .i .i64, .i .i64]] [.b] [] [4] .no
noncomputable def g_leqSaid := f_leqSaid BIG
noncomputable def p_leqSaid : TSp := ⟨s_leqSaid, [[.i .i64, .i .i64, .i .i64, .i .i64, .i .i64, .i .i64], [.i .i64, .i .i64, .i .i64, .i .i64, .i .i64, .i .i64]], [.b], [], Ou.j .no, g_leqSaid⟩
theorem k_leqSaid : chkW PG E_leqSaid 217 s_leqSaid (c_leqSaid.ht 21) .no = some (c_leqSaid.wc E_leqSaid, [4]) := by kernel_rfl
theorem ok_leqSaid : p_leqSaid.Ok PG 217 := mkOk (env_cons ok_leqAsk (env_nil PG)) k_leqSaid (by kernel_rfl)
theorem e_leqSaid (n : Nat) (a0 : Int × Int × Int × Int × Int × Int) (a1 : Int × Int × Int × Int × Int × Int) : f_leqSaid n (a0, a1) =
  bif !decide (a0.1 = a1.1) then
   some (false, ())
  else Option.bind (g_leqAsk ((a0.2.1, a0.2.2.1, a0.2.2.2.1, a0.2.2.2.2.1), (a1.2.1, a1.2.2.1, a1.2.2.2.1, a1.2.2.2.2.1))) fun r0 =>
  bif !r0.1 then
   some (false, ())
  else bif !decide (a0.2.2.2.2.2 = a1.2.2.2.2.2) then
   some (false, ())
  else some (true, ()) := by kernel_rfl
/- laws.eqSaidS -/
def c_leqSaidS : TC :=
 (.seq (.rg [o1 4 (.lit [.b] [.bool false])])
 (.seq (.seq (.rg [o1 6 (.copy 0),
   o1 7 (.len 6),
   o1 8 (.copy 1),
   o1 9 (.len 8),
   o1 10 (.data (.bin .neq) [.t 7, .t 9])])
 (.cond (.t 10)
  (.seq (.rg [o1 4 (.lit [.b] [.bool false])])
  .ret)
  .skip))
 (.seq (.join [] 134215728 (some [⟨4, [.b], false⟩]) (.seq (.rg [o1 5 (.lit [.i .i64] [.int .i64 (0)])])
 (.block 0 (.loop [⟨5, [.i .i64], false⟩] 134215728
  (.seq (.seq (.rg [o1 11 (.copy 5),
    o1 12 (.copy 0),
    o1 13 (.len 12),
    o1 14 (.data (.bin .lss) [.t 11, .t 13])])
  (.cond (.t 14)
   .skip
   (.exit 0)))
  (.seq (.block 1 (.seq (.rg [o1 17 (.copy 0),
    o1 18 (.copy 5),
    o1 19 (.index 17 (.t 18)),
    o1 20 (.load 17 [(0, 6)] 0 (.t 19) 6 false),
    o1 21 (.copy 1),
    o1 22 (.copy 5),
    o1 23 (.index 21 (.t 22)),
    o1 24 (.load 21 [(0, 6)] 0 (.t 23) 6 false),
    o3 25 217 [.t 20, .t 24],
    o1 26 (.data .not [.t 25])])
  (.cond (.t 26)
   (.seq (.rg [o1 4 (.lit [.b] [.bool false])])
   .ret)
   .skip)))
  (.rg [o1 15 (.copy 5),
    o1 16 (.data (.bin .add) [.t 15, .c (.int .i64 (1))]),
    o1 5 (.copy 16)])))))))
 (.seq (.rg [o1 4 (.lit [.b] [.bool true])])
 .ret))))
def s_leqSaidS : Sig := ⟨[.rd false [.sl (.own none) [.d, .d, .d, .d, .d, .d]], .rd false [.sl (.own none) [.d, .d, .d, .d, .d, .d]]], (.one false [.d])⟩
noncomputable def E_leqSaidS : TEnv := envOf [(217, p_leqSaid)]
noncomputable def f_leqSaidS (n : Nat) : (List (Int × Int × Int × Int × Int × Int)) × (List (Int × Int × Int × Int × Int × Int)) → Option ((Bool) × Unit) := runFn n E_leqSaidS c_leqSaidS [[.sl [.i .i64, .i .i64, .i .i64, .i .i64, .i .i64, .i .i64]], [.sl [.i .i64, .i .i64, .i .i64, .i .i64, .i .i64, .i .i64]]] [.b] [] [4] .no
noncomputable def g_leqSaidS := f_leqSaidS BIG
noncomputable def p_leqSaidS : TSp := ⟨s_leqSaidS, [[.sl [.i .i64, .i .i64, .i .i64, .i .i64, .i .i64, .i .i64]], [.sl [.i .i64, .i .i64, .i .i64, .i .i64, .i .i64, .i .i64]]], [.b], [], Ou.j .no, g_leqSaidS⟩
theorem k_leqSaidS : chkW PG E_leqSaidS 87 s_leqSaidS (c_leqSaidS.ht 27) .no = some (c_leqSaidS.wc E_leqSaidS, [4]) := by kernel_rfl
theorem ok_leqSaidS : p_leqSaidS.Ok PG 87 := mkOk (env_cons ok_leqSaid (env_nil PG)) k_leqSaidS (by kernel_rfl)
theorem e_leqSaidS (n : Nat) (a0 : List (Int × Int × Int × Int × Int × Int)) (a1 : List (Int × Int × Int × Int × Int × Int)) : f_leqSaidS n (a0, a1) =
  bif !decide ((a0.length : Int) = (a1.length : Int)) then
   some (false, ())
  else Option.bind (loopT n (X := Int) (B := (Unit) ⊕ (Bool)) (fun self1 x0 =>
    bif decide (x0 < (a0.length : Int)) then
     bnd a0.length x0 fun n2 =>
     Option.bind a0[n2]? fun y3 =>
     bnd a1.length x0 fun n4 =>
     Option.bind a1[n4]? fun y5 =>
     Option.bind (g_leqSaid (y3, y5)) fun r6 =>
     bif !r6.1 then
      some (Sum.inr false)
     else self1 (IntKind.wrap .i64 (x0 + (1 : Int)))
    else some (Sum.inl ())) (0 : Int) : Option ((Unit) ⊕ (Bool))) fun y => match y with
  | .inl x7 =>
   some (true, ())
  | .inr x7 =>
   some (x7, ()) := by kernel_rfl
/- laws.eqHead -/
def c_leqHead : TC :=
 (.seq (.rg [o1 2 (.a (.t 0)),
   o1 3 (.a (.t 1)),
   o1 4 (.lit [.b] [.bool false])])
 (.seq (.seq (.rg [o1 5 (.idx .nil),
   o1 6 (.load 2 [] 0 (.t 5) 1 false),
   o1 7 (.idx .nil),
   o1 8 (.load 3 [] 0 (.t 7) 1 false),
   o1 9 (.data (.bin .neq) [.t 6, .t 8])])
 (.cond (.t 9)
  (.seq (.rg [o1 4 (.lit [.b] [.bool false])])
  .ret)
  .skip))
 (.seq (.seq (.rg [o1 10 (.idx .nil),
   o1 11 (.load 2 [] 1 (.t 10) 1 false),
   o1 12 (.idx .nil),
   o1 13 (.load 3 [] 1 (.t 12) 1 false),
   o3 14 39 [.t 11, .t 13],
   o1 15 (.data .not [.t 14])])
 (.cond (.t 15)
  (.seq (.rg [o1 4 (.lit [.b] [.bool false])])
  .ret)
  .skip))
 (.seq (.seq (.rg [o1 16 (.idx .nil),
   o1 17 (.load 2 [] 2 (.t 16) 1 false),
   o1 18 (.idx .nil),
   o1 19 (.load 3 [] 2 (.t 18) 1 false),
   o3 20 41 [.t 17, .t 19],
   o1 21 (.data .not [.t 20])])
 (.cond (.t 21)
  (.seq (.rg [o1 4 (.lit [.b] [.bool false])])
  .ret)
  .skip))
 (.seq (.seq (.rg [o1 22 (.idx .nil),
   o1 23 (.load 2 [] 3 (.t 22) 1 false),
   o1 24 (.idx .nil),
   o1 25 (.load 3 [] 3 (.t 24) 1 false),
   o3 26 40 [.t 23, .t 25],
   o1 27 (.data .not [.t 26])])
 (.cond (.t 27)
  (.seq (.rg [o1 4 (.lit [.b] [.bool false])])
  .ret)
  .skip))
 (.seq (.seq (.rg [o1 28 (.idx .nil),
   o1 29 (.load 2 [] 4 (.t 28) 1 false),
   o1 30 (.idx .nil),
   o1 31 (.load 3 [] 4 (.t 30) 1 false),
   o3 32 39 [.t 29, .t 31],
   o1 33 (.data .not [.t 32])])
 (.cond (.t 33)
  (.seq (.rg [o1 4 (.lit [.b] [.bool false])])
  .ret)
  .skip))
 (.seq (.seq (.rg [o1 34 (.idx .nil),
   o1 35 (.load 2 [] 5 (.t 34) 9 false),
   o1 36 (.idx .nil),
   o1 37 (.load 3 [] 5 (.t 36) 9 false),
   o3 38 199 [.t 35, .t 37],
   o1 39 (.data .not [.t 38])])
 (.cond (.t 39)
  (.seq (.rg [o1 4 (.lit [.b] [.bool false])])
  .ret)
  .skip))
 (.seq (.seq (.rg [o1 40 (.idx .nil),
   o1 41 (.load 2 [] 14 (.t 40) 1 false),
   o1 42 (.idx .nil),
   o1 43 (.load 3 [] 14 (.t 42) 1 false),
   o3 44 87 [.t 41, .t 43],
   o1 45 (.data .not [.t 44])])
 (.cond (.t 45)
  (.seq (.rg [o1 4 (.lit [.b] [.bool false])])
  .ret)
  .skip))
 (.seq (.rg [o1 4 (.lit [.b] [.bool true])])
 .ret)))))))))
def s_leqHead : Sig := ⟨[.rd true [.d, .sl (.own none) [.d], .sl (.own none) [.d, .d], .sl (.own none) [.sl (.own none) [.d]], .sl (.own none) [.d], .d, .d, .d, .d, .d, .d, .d, .sl (.own none) [.d, .d], .d, .sl (.own none) [.d, .d, .d, .d, .d, .d]], .rd true [.d, .sl (.own none) [.d], .sl (.own none) [.d, .d], .sl (.own none) [.sl (.own none) [.d]], .sl (.own none) [.d], .d, .d, .d, .d, .d, .d, .d, .sl (.own none) [.d, .d], .d, .sl (.own none) [.d, .d, .d, .d, .d, .d]]], (.one false [.d])⟩
noncomputable def E_leqHead : TEnv := envOf [(39, p_leqIntS), (41, p_leqEdgeS), (40, p_leqIntSS), (199, p_leqTask), (87, p_leqSaidS)]
noncomputable def f_leqHead (n : Nat) : (Int × List (Int) × List (Int × Int) × List (List (Int)) × List (Int) × Int × Int × Int × Int × Int × Int × Int × List (Int × Int) × Int × List (Int × Int × Int × Int × Int × Int)) × (Int × List (Int) × List (Int × Int) × List (List (Int)) × List (Int) × Int × Int × Int × Int × Int × Int × Int × List (Int × Int) × Int × List (Int × Int × Int × Int × Int × Int)) → Option ((Bool) × Unit) := runFn n E_leqHead c_leqHead [[.i .i64, .sl [.i .i64], .sl [.i .i64, .i .i64], .sl [.sl [.i .i64]], .sl [.i .i64], .i .i64, .i .i64, .i .i64, .i .i64, .i .i64, .i .i64, .i .i64, .sl [.i .i64, .i .i64], .i .i64, .sl [.i .i64, .i .i64, .i .i64, .i .i64, .i .i64, .i .i64]], [.i .i64, .sl [.i .i64], .sl [.i .i64, .i .i64], .sl [.sl [.i .i64]], .sl [.i .i64], .i .i64, .i .i64, .i .i64, .i .i64, .i .i64, .i .i64, .i .i64, .sl [.i .i64, .i .i64], .i .i64, .sl [.i .i64, .i .i64, .i .i64, .i .i64, .i .i64, .i .i64]]] [.b] [] [4] .no
noncomputable def g_leqHead := f_leqHead BIG
noncomputable def p_leqHead : TSp := ⟨s_leqHead, [[.i .i64, .sl [.i .i64], .sl [.i .i64, .i .i64], .sl [.sl [.i .i64]], .sl [.i .i64], .i .i64, .i .i64, .i .i64, .i .i64, .i .i64, .i .i64, .i .i64, .sl [.i .i64, .i .i64], .i .i64, .sl [.i .i64, .i .i64, .i .i64, .i .i64, .i .i64, .i .i64]], [.i .i64, .sl [.i .i64], .sl [.i .i64, .i .i64], .sl [.sl [.i .i64]], .sl [.i .i64], .i .i64, .i .i64, .i .i64, .i .i64, .i .i64, .i .i64, .i .i64, .sl [.i .i64, .i .i64], .i .i64, .sl [.i .i64, .i .i64, .i .i64, .i .i64, .i .i64, .i .i64]]], [.b], [], Ou.j .no, g_leqHead⟩
theorem k_leqHead : chkW PG E_leqHead 68 s_leqHead (c_leqHead.ht 46) .no = some (c_leqHead.wc E_leqHead, [4]) := by kernel_rfl
theorem ok_leqHead : p_leqHead.Ok PG 68 := mkOk (env_cons ok_leqIntS (env_cons ok_leqEdgeS (env_cons ok_leqIntSS (env_cons ok_leqTask (env_cons ok_leqSaidS (env_nil PG)))))) k_leqHead (by kernel_rfl)
theorem e_leqHead (n : Nat) (a0 : Int × List (Int) × List (Int × Int) × List ((List (Int))) × List (Int) × Int × Int × Int × Int × Int × Int × Int × List (Int × Int) × Int × List (Int × Int × Int × Int × Int × Int)) (a1 : Int × List (Int) × List (Int × Int) × List ((List (Int))) × List (Int) × Int × Int × Int × Int × Int × Int × Int × List (Int × Int) × Int × List (Int × Int × Int × Int × Int × Int)) : f_leqHead n (a0, a1) =
  bif !decide (a0.1 = a1.1) then
   some (false, ())
  else Option.bind (g_leqIntS (a0.2.1, a1.2.1)) fun r0 =>
  bif !r0.1 then
   some (false, ())
  else Option.bind (g_leqEdgeS (a0.2.2.1, a1.2.2.1)) fun r1 =>
  bif !r1.1 then
   some (false, ())
  else Option.bind (g_leqIntSS (a0.2.2.2.1, a1.2.2.2.1)) fun r2 =>
  bif !r2.1 then
   some (false, ())
  else Option.bind (g_leqIntS (a0.2.2.2.2.1, a1.2.2.2.2.1)) fun r3 =>
  bif !r3.1 then
   some (false, ())
  else Option.bind (g_leqTask ((a0.2.2.2.2.2.1, a0.2.2.2.2.2.2.1, a0.2.2.2.2.2.2.2.1, a0.2.2.2.2.2.2.2.2.1, a0.2.2.2.2.2.2.2.2.2.1, a0.2.2.2.2.2.2.2.2.2.2.1, a0.2.2.2.2.2.2.2.2.2.2.2.1, a0.2.2.2.2.2.2.2.2.2.2.2.2.1, a0.2.2.2.2.2.2.2.2.2.2.2.2.2.1), (a1.2.2.2.2.2.1, a1.2.2.2.2.2.2.1, a1.2.2.2.2.2.2.2.1, a1.2.2.2.2.2.2.2.2.1, a1.2.2.2.2.2.2.2.2.2.1, a1.2.2.2.2.2.2.2.2.2.2.1, a1.2.2.2.2.2.2.2.2.2.2.2.1, a1.2.2.2.2.2.2.2.2.2.2.2.2.1, a1.2.2.2.2.2.2.2.2.2.2.2.2.2.1))) fun r4 =>
  bif !r4.1 then
   some (false, ())
  else Option.bind (g_leqSaidS (a0.2.2.2.2.2.2.2.2.2.2.2.2.2.2, a1.2.2.2.2.2.2.2.2.2.2.2.2.2.2)) fun r5 =>
  bif !r5.1 then
   some (false, ())
  else some (true, ()) := by kernel_rfl
/- laws.markIntS -/
def c_lmarkIntS : TC :=
 (.seq (.rg [o1 4 (.lit [.i .i64] [.int .i64 (0)])])
 (.seq (.join [⟨0, [.sl [.i .i64]], false⟩, ⟨1, [.i .i64], false⟩] 262115 none (.seq (.rg [o1 5 (.lit [.i .i64] [.int .i64 (0)])])
 (.block 0 (.loop [⟨0, [.sl [.i .i64]], false⟩, ⟨1, [.i .i64], false⟩, ⟨5, [.i .i64], false⟩] 262115
  (.seq (.seq (.rg [o1 6 (.copy 5),
    ⟨true, [], [], .det 1 (.copy 0), [7], (some 7), none⟩,
    o1 8 (.len 7),
    o1 9 (.data (.bin .lss) [.t 6, .t 8])])
  (.cond (.t 9)
   .skip
   (.exit 0)))
  (.seq (.block 1 (.seq (.rg [⟨true, [], [], .det 1 (.copy 0), [12], (some 12), none⟩,
    o1 13 (.copy 5),
    o1 14 (.copy 1),
    o1 15 (.index 12 (.t 13)),
    o4 1 [0, 7, 12] (.store 0 [(0, 1)] 0 (.t 15) (.t 14))])
  (.rg [o1 16 (.copy 1),
    o1 17 (.data (.bin .add) [.t 16, .c (.int .i64 (1))]),
    o1 1 (.copy 17)])))
  (.rg [o1 10 (.copy 5),
    o1 11 (.data (.bin .add) [.t 10, .c (.int .i64 (1))]),
    o1 5 (.copy 11)])))))))
 (.seq (.rg [o1 18 (.copy 1),
   o1 4 (.copy 18)])
 .ret)))
def s_lmarkIntS : Sig := ⟨[.mt false [.sl (.own none) [.d]], .rd false [.d]], (.one false [.d])⟩
noncomputable def E_lmarkIntS : TEnv := envOf []
noncomputable def f_lmarkIntS (n : Nat) : List (Int) × Int → Option ((Int) × List (Int)) := runFn n E_lmarkIntS c_lmarkIntS [[.sl [.i .i64]], [.i .i64]] [.i .i64] [.sl [.i .i64]] [4] (.mt 0 0 0)
noncomputable def g_lmarkIntS := f_lmarkIntS BIG
noncomputable def p_lmarkIntS : TSp := ⟨s_lmarkIntS, [[.sl [.i .i64]], [.i .i64]], [.i .i64], [.sl [.i .i64]], Ou.j (.mt 0 0 0), g_lmarkIntS⟩
theorem k_lmarkIntS : chkW PG E_lmarkIntS 44 s_lmarkIntS (c_lmarkIntS.ht 19) (.mt 0 0 0) = some (c_lmarkIntS.wc E_lmarkIntS, [4]) := by kernel_rfl
theorem ok_lmarkIntS : p_lmarkIntS.Ok PG 44 := mkOk (env_nil PG) k_lmarkIntS (by kernel_rfl)
theorem e_lmarkIntS (n : Nat) (a0 : List (Int)) (a1 : Int) : f_lmarkIntS n (a0, a1) =
  Option.bind (loopT n (X := (List (Int)) × Int × Int) (B := (List (Int)) × Int) (fun self1 x0 =>
    bif decide (x0.2.2 < (x0.1.length : Int)) then
     bnd x0.1.length x0.2.2 fun n2 =>
     Option.bind x0.1[n2]? fun y3 =>
     self1 (x0.1.set n2 x0.2.1, IntKind.wrap .i64 (x0.2.1 + (1 : Int)), IntKind.wrap .i64 (x0.2.2 + (1 : Int)))
    else some (x0.1, x0.2.1)) (a0, a1, (0 : Int)) : Option ((List (Int)) × Int)) fun x4 =>
  some (x4.2, x4.1) := by kernel_rfl
/- laws.markEdgeS -/
def c_lmarkEdgeS : TC :=
 (.seq (.rg [o1 4 (.lit [.i .i64] [.int .i64 (0)])])
 (.seq (.join [⟨0, [.sl [.i .i64, .i .i64]], false⟩, ⟨1, [.i .i64], false⟩] 67108835 none (.seq (.rg [o1 5 (.lit [.i .i64] [.int .i64 (0)])])
 (.block 0 (.loop [⟨0, [.sl [.i .i64, .i .i64]], false⟩, ⟨1, [.i .i64], false⟩, ⟨5, [.i .i64], false⟩] 67108835
  (.seq (.seq (.rg [o1 6 (.copy 5),
    ⟨true, [], [], .det 1 (.copy 0), [7], (some 7), none⟩,
    o1 8 (.len 7),
    o1 9 (.data (.bin .lss) [.t 6, .t 8])])
  (.cond (.t 9)
   .skip
   (.exit 0)))
  (.seq (.block 1 (.seq (.rg [⟨true, [], [], .det 1 (.copy 0), [12], (some 12), none⟩,
    o1 13 (.copy 5),
    o1 14 (.copy 1),
    o1 15 (.index 12 (.t 13)),
    o1 16 (.idx (.t 15)),
    o4 1 [0, 7, 12] (.store 0 [(0, 2)] 0 (.t 16) (.t 14))])
  (.seq (.rg [o1 17 (.copy 1),
    o1 18 (.data (.bin .add) [.t 17, .c (.int .i64 (1))]),
    o1 1 (.copy 18)])
  (.seq (.rg [⟨true, [], [], .det 1 (.copy 0), [19], (some 19), none⟩,
    o1 20 (.copy 5),
    o1 21 (.copy 1),
    o1 22 (.index 19 (.t 20)),
    o1 23 (.idx (.t 22)),
    o4 1 [0, 19] (.store 0 [(0, 2)] 1 (.t 23) (.t 21))])
  (.rg [o1 24 (.copy 1),
    o1 25 (.data (.bin .add) [.t 24, .c (.int .i64 (1))]),
    o1 1 (.copy 25)])))))
  (.rg [o1 10 (.copy 5),
    o1 11 (.data (.bin .add) [.t 10, .c (.int .i64 (1))]),
    o1 5 (.copy 11)])))))))
 (.seq (.rg [o1 26 (.copy 1),
   o1 4 (.copy 26)])
 .ret)))
def s_lmarkEdgeS : Sig := ⟨[.mt false [.sl (.own none) [.d, .d]], .rd false [.d]], (.one false [.d])⟩
noncomputable def E_lmarkEdgeS : TEnv := envOf []
noncomputable def f_lmarkEdgeS (n : Nat) : (List (Int × Int)) × Int → Option ((Int) × List (Int × Int)) := runFn n E_lmarkEdgeS c_lmarkEdgeS [[.sl [.i .i64, .i .i64]], [.i .i64]] [.i .i64] [.sl [.i .i64, .i .i64]] [4] (.mt 0 0 0)
noncomputable def g_lmarkEdgeS := f_lmarkEdgeS BIG
noncomputable def p_lmarkEdgeS : TSp := ⟨s_lmarkEdgeS, [[.sl [.i .i64, .i .i64]], [.i .i64]], [.i .i64], [.sl [.i .i64, .i .i64]], Ou.j (.mt 0 0 0), g_lmarkEdgeS⟩
theorem k_lmarkEdgeS : chkW PG E_lmarkEdgeS 43 s_lmarkEdgeS (c_lmarkEdgeS.ht 27) (.mt 0 0 0) = some (c_lmarkEdgeS.wc E_lmarkEdgeS, [4]) := by kernel_rfl
theorem ok_lmarkEdgeS : p_lmarkEdgeS.Ok PG 43 := mkOk (env_nil PG) k_lmarkEdgeS (by kernel_rfl)
theorem e_lmarkEdgeS (n : Nat) (a0 : List (Int × Int)) (a1 : Int) : f_lmarkEdgeS n (a0, a1) =
  Option.bind (loopT n (X := (List (Int × Int)) × Int × Int) (B := (List (Int × Int)) × Int) (fun self1 x0 =>
    bif decide (x0.2.2 < (x0.1.length : Int)) then
     bnd x0.1.length x0.2.2 fun n2 =>
     Option.bind x0.1[n2]? fun y3 =>
     bnd (x0.1.set n2 (x0.2.1, y3.2)).length x0.2.2 fun n4 =>
     Option.bind (x0.1.set n2 (x0.2.1, y3.2))[n4]? fun y5 =>
     self1 ((x0.1.set n2 (x0.2.1, y3.2)).set n4 (y5.1, IntKind.wrap .i64 (x0.2.1 + (1 : Int))), IntKind.wrap .i64 ((IntKind.wrap .i64 (x0.2.1 + (1 : Int))) + (1 : Int)), IntKind.wrap .i64 (x0.2.2 + (1 : Int)))
    else some (x0.1, x0.2.1)) (a0, a1, (0 : Int)) : Option ((List (Int × Int)) × Int)) fun x6 =>
  some (x6.2, x6.1) := by kernel_rfl
/- laws.markIntSS -/
def c_lmarkIntSS : TC :=
 (.seq (.rg [o1 4 (.lit [.i .i64] [.int .i64 (0)])])
 (.seq (.join [⟨0, [.sl [.sl [.i .i64]]], false⟩, ⟨1, [.i .i64], false⟩] 262115 none (.seq (.rg [o1 5 (.lit [.i .i64] [.int .i64 (0)])])
 (.block 0 (.loop [⟨0, [.sl [.sl [.i .i64]]], false⟩, ⟨1, [.i .i64], false⟩, ⟨5, [.i .i64], false⟩] 262115
  (.seq (.seq (.rg [o1 6 (.copy 5),
    ⟨true, [], [], .det 1 (.copy 0), [7], (some 7), none⟩,
    o1 8 (.len 7),
    o1 9 (.data (.bin .lss) [.t 6, .t 8])])
  (.cond (.t 9)
   .skip
   (.exit 0)))
  (.seq (.block 1 (.rg [⟨true, [], [], .det 1 (.copy 0), [12], (some 12), none⟩,
    o1 13 (.copy 5),
    o1 14 (.index 12 (.t 13)),
    o1 15 (.load 0 [(0, 1)] 0 (.t 14) 1 true),
    o1 16 (.copy 1),
    ⟨false, [], [], .call 2 44 [.t 15, .t 16] (.mt 0 [(0, 1)] 0 15 0), [17, 0, 7, 15, 14, 12], (some 17), none⟩,
    o1 1 (.copy 17)]))
  (.rg [o1 10 (.copy 5),
    o1 11 (.data (.bin .add) [.t 10, .c (.int .i64 (1))]),
    o1 5 (.copy 11)])))))))
 (.seq (.rg [o1 18 (.copy 1),
   o1 4 (.copy 18)])
 .ret)))
def s_lmarkIntSS : Sig := ⟨[.mt false [.sl (.own none) [.sl (.own none) [.d]]], .rd false [.d]], (.one false [.d])⟩
noncomputable def E_lmarkIntSS : TEnv := envOf [(44, p_lmarkIntS)]
noncomputable def f_lmarkIntSS (n : Nat) : List (List (Int)) × Int → Option ((Int) × List (List (Int))) := runFn n E_lmarkIntSS c_lmarkIntSS [[.sl [.sl [.i .i64]]], [.i .i64]] [.i .i64] [.sl [.sl [.i .i64]]] [4] (.mt 0 0 0)
noncomputable def g_lmarkIntSS := f_lmarkIntSS BIG
noncomputable def p_lmarkIntSS : TSp := ⟨s_lmarkIntSS, [[.sl [.sl [.i .i64]]], [.i .i64]], [.i .i64], [.sl [.sl [.i .i64]]], Ou.j (.mt 0 0 0), g_lmarkIntSS⟩
theorem k_lmarkIntSS : chkW PG E_lmarkIntSS 42 s_lmarkIntSS (c_lmarkIntSS.ht 19) (.mt 0 0 0) = some (c_lmarkIntSS.wc E_lmarkIntSS, [4]) := by kernel_rfl
theorem ok_lmarkIntSS : p_lmarkIntSS.Ok PG 42 := mkOk (env_cons ok_lmarkIntS (env_nil PG)) k_lmarkIntSS (by kernel_rfl)
theorem e_lmarkIntSS (n : Nat) (a0 : List ((List (Int)))) (a1 : Int) : f_lmarkIntSS n (a0, a1) =
  Option.bind (loopT n (X := (List ((List (Int)))) × Int × Int) (B := (List ((List (Int)))) × Int) (fun self1 x0 =>
    bif decide (x0.2.2 < (x0.1.length : Int)) then
     bnd x0.1.length x0.2.2 fun n2 =>
     Option.bind x0.1[n2]? fun y3 =>
     Option.bind (g_lmarkIntS (y3, x0.2.1)) fun r4 =>
     Option.bind x0.1[n2]? fun y5 =>
     self1 (x0.1.set n2 r4.2, r4.1, IntKind.wrap .i64 (x0.2.2 + (1 : Int)))
    else some (x0.1, x0.2.1)) (a0, a1, (0 : Int)) : Option ((List ((List (Int)))) × Int)) fun x6 =>
  some (x6.2, x6.1) := by kernel_rfl
/- laws.markOrder -/
def c_lmarkOrder : TC :=
 (.seq (.rg [⟨false, [], [], .det 2 (.a (.t 0)), [2, 0], (some 2), none⟩,
   o1 4 (.lit [.i .i64] [.int .i64 (0)])])
 (.seq (.rg [o1 5 (.idx .nil),
   o1 6 (.load 2 [] 2 (.t 5) 1 true),
   o1 7 (.copy 1),
   ⟨false, [], [], .call 2 43 [.t 6, .t 7] (.mt 2 [] 2 6 0), [8, 2, 6], (some 8), none⟩,
   o1 1 (.copy 8)])
 (.seq (.rg [o1 9 (.copy 1),
   o1 4 (.copy 9)])
 .ret)))
def s_lmarkOrder : Sig := ⟨[.mt true [.d, .d, .sl (.own none) [.d, .d], .d], .rd false [.d]], (.one false [.d])⟩
noncomputable def E_lmarkOrder : TEnv := envOf [(43, p_lmarkEdgeS)]
noncomputable def f_lmarkOrder (n : Nat) : (Int × Int × List (Int × Int) × Int) × Int → Option ((Int) × Int × Int × List (Int × Int) × Int) := runFn n E_lmarkOrder c_lmarkOrder [[.i .i64, .i .i64, .sl [.i .i64, .i .i64], .i .i64], [.i .i64]] [.i .i64] [.i .i64, .i .i64, .sl [.i .i64, .i .i64], .i .i64] [4] (.mt 0 2 0)
noncomputable def g_lmarkOrder := f_lmarkOrder BIG
noncomputable def p_lmarkOrder : TSp := ⟨s_lmarkOrder, [[.i .i64, .i .i64, .sl [.i .i64, .i .i64], .i .i64], [.i .i64]], [.i .i64], [.i .i64, .i .i64, .sl [.i .i64, .i .i64], .i .i64], Ou.j (.mt 0 2 0), g_lmarkOrder⟩
theorem k_lmarkOrder : chkW PG E_lmarkOrder 58 s_lmarkOrder (c_lmarkOrder.ht 10) (.mt 0 2 0) = some (c_lmarkOrder.wc E_lmarkOrder, [4]) := by kernel_rfl
theorem ok_lmarkOrder : p_lmarkOrder.Ok PG 58 := mkOk (env_cons ok_lmarkEdgeS (env_nil PG)) k_lmarkOrder (by kernel_rfl)
theorem e_lmarkOrder (n : Nat) (a0 : Int × Int × List (Int × Int) × Int) (a1 : Int) : f_lmarkOrder n (a0, a1) =
  Option.bind (g_lmarkEdgeS (a0.2.2.1, a1)) fun r0 =>
  some (r0.1, (a0.1, a0.2.1, r0.2, a0.2.2.2)) := by kernel_rfl
/- laws.markTask -/
def c_lmarkTask : TC :=
 (.seq (.rg [⟨false, [], [], .det 2 (.a (.t 0)), [2, 0], (some 2), none⟩,
   o1 4 (.lit [.i .i64] [.int .i64 (0)])])
 (.seq (.rg [o1 5 (.idx .nil),
   o1 6 (.load 2 [] 5 (.t 5) 4 true),
   o1 7 (.copy 1),
   ⟨false, [], [], .call 2 58 [.t 6, .t 7] (.mt 2 [] 5 6 0), [8, 2, 6], (some 8), none⟩,
   o1 1 (.copy 8)])
 (.seq (.rg [o1 9 (.copy 1),
   o1 4 (.copy 9)])
 .ret)))
def s_lmarkTask : Sig := ⟨[.mt true [.d, .d, .d, .d, .d, .d, .d, .sl (.own none) [.d, .d], .d], .rd false [.d]], (.one false [.d])⟩
noncomputable def E_lmarkTask : TEnv := envOf [(58, p_lmarkOrder)]
noncomputable def f_lmarkTask (n : Nat) : (Int × Int × Int × Int × Int × Int × Int × List (Int × Int) × Int) × Int → Option ((Int) × Int × Int × Int × Int × Int × Int × Int × List (Int × Int) × Int) := runFn n E_lmarkTask c_lmarkTask [[.i .i64, .i .i64, .i .i64, .i .i64, .i .i64, .i .i64, .i .i64, .sl [.i .i64, .i .i64], .i .i64], [.i .i64]] [.i .i64] [.i .i64, .i .i64, .i .i64, .i .i64, .i .i64, .i .i64, .i .i64, .sl [.i .i64, .i .i64], .i .i64] [4] (.mt 0 2 0)
noncomputable def g_lmarkTask := f_lmarkTask BIG
noncomputable def p_lmarkTask : TSp := ⟨s_lmarkTask, [[.i .i64, .i .i64, .i .i64, .i .i64, .i .i64, .i .i64, .i .i64, .sl [.i .i64, .i .i64], .i .i64], [.i .i64]], [.i .i64], [.i .i64, .i .i64, .i .i64, .i .i64, .i .i64, .i .i64, .i .i64, .sl [.i .i64, .i .i64], .i .i64], Ou.j (.mt 0 2 0), g_lmarkTask⟩
theorem k_lmarkTask : chkW PG E_lmarkTask 209 s_lmarkTask (c_lmarkTask.ht 10) (.mt 0 2 0) = some (c_lmarkTask.wc E_lmarkTask, [4]) := by kernel_rfl
theorem ok_lmarkTask : p_lmarkTask.Ok PG 209 := mkOk (env_cons ok_lmarkOrder (env_nil PG)) k_lmarkTask (by kernel_rfl)
theorem e_lmarkTask (n : Nat) (a0 : Int × Int × Int × Int × Int × Int × Int × List (Int × Int) × Int) (a1 : Int) : f_lmarkTask n (a0, a1) =
  Option.bind (g_lmarkOrder (a0.2.2.2.2.2, a1)) fun r0 =>
  some (r0.1, (a0.1, a0.2.1, a0.2.2.1, a0.2.2.2.1, a0.2.2.2.2.1, a0.2.2.2.2.2.1, a0.2.2.2.2.2.2.1, r0.2.2.2.1, a0.2.2.2.2.2.2.2.2)) := by kernel_rfl
/- laws.markSaidS -/
def c_lmarkSaidS : TC :=
 (.seq (.rg [o1 4 (.lit [.i .i64] [.int .i64 (0)])])
 (.seq (.join [⟨0, [.sl [.i .i64, .i .i64, .i .i64, .i .i64, .i .i64, .i .i64]], false⟩, ⟨1, [.i .i64], false⟩] 288230376151711715 none (.seq (.rg [o1 5 (.lit [.i .i64] [.int .i64 (0)])])
 (.block 0 (.loop [⟨0, [.sl [.i .i64, .i .i64, .i .i64, .i .i64, .i .i64, .i .i64]], false⟩, ⟨1, [.i .i64], false⟩, ⟨5, [.i .i64], false⟩] 288230376151711715
  (.seq (.seq (.rg [o1 6 (.copy 5),
    ⟨true, [], [], .det 1 (.copy 0), [7], (some 7), none⟩,
    o1 8 (.len 7),
    o1 9 (.data (.bin .lss) [.t 6, .t 8])])
  (.cond (.t 9)
   .skip
   (.exit 0)))
  (.seq (.block 1 (.seq (.rg [⟨true, [], [], .det 1 (.copy 0), [12], (some 12), none⟩,
    o1 13 (.copy 5),
    o1 14 (.copy 1),
    o1 15 (.index 12 (.t 13)),
    o1 16 (.idx (.t 15)),
    o4 1 [0, 7, 12] (.store 0 [(0, 6)] 0 (.t 16) (.t 14))])
  (.seq (.rg [o1 17 (.copy 1),
    o1 18 (.data (.bin .add) [.t 17, .c (.int .i64 (1))]),
    o1 1 (.copy 18)])
  (.seq (.rg [⟨true, [], [], .det 1 (.copy 0), [19], (some 19), none⟩,
    o1 20 (.copy 5),
    o1 21 (.copy 1),
    o1 22 (.index 19 (.t 20)),
    o1 23 (.idx (.t 22)),
    o1 24 (.idx (.t 23)),
    o4 1 [0, 19] (.store 0 [(0, 6)] 1 (.t 24) (.t 21))])
  (.seq (.rg [o1 25 (.copy 1),
    o1 26 (.data (.bin .add) [.t 25, .c (.int .i64 (1))]),
    o1 1 (.copy 26)])
  (.seq (.rg [⟨true, [], [], .det 1 (.copy 0), [27], (some 27), none⟩,
    o1 28 (.copy 5),
    o1 29 (.copy 1),
    o1 30 (.index 27 (.t 28)),
    o1 31 (.idx (.t 30)),
    o1 32 (.idx (.t 31)),
    o4 1 [0, 27] (.store 0 [(0, 6)] 2 (.t 32) (.t 29))])
  (.seq (.rg [o1 33 (.copy 1),
    o1 34 (.data (.bin .add) [.t 33, .c (.int .i64 (1))]),
    o1 1 (.copy 34)])
  (.seq (.rg [⟨true, [], [], .det 1 (.copy 0), [35], (some 35), none⟩,
    o1 36 (.copy 5),
    o1 37 (.copy 1),
    o1 38 (.index 35 (.t 36)),
    o1 39 (.idx (.t 38)),
    o1 40 (.idx (.t 39)),
    o4 1 [0, 35] (.store 0 [(0, 6)] 3 (.t 40) (.t 37))])
  (.seq (.rg [o1 41 (.copy 1),
    o1 42 (.data (.bin .add) [.t 41, .c (.int .i64 (1))]),
    o1 1 (.copy 42)])
  (.seq (.rg [⟨true, [], [], .det 1 (.copy 0), [43], (some 43), none⟩,
    o1 44 (.copy 5),
    o1 45 (.copy 1),
    o1 46 (.index 43 (.t 44)),
    o1 47 (.idx (.t 46)),
    o1 48 (.idx (.t 47)),
    o4 1 [0, 43] (.store 0 [(0, 6)] 4 (.t 48) (.t 45))])
  (.seq (.rg [o1 49 (.copy 1),
    o1 50 (.data (.bin .add) [.t 49, .c (.int .i64 (1))]),
    o1 1 (.copy 50)])
  (.seq (.rg [⟨true, [], [], .det 1 (.copy 0), [51], (some 51), none⟩,
    o1 52 (.copy 5),
    o1 53 (.copy 1),
    o1 54 (.index 51 (.t 52)),
    o1 55 (.idx (.t 54)),
    o4 1 [0, 51] (.store 0 [(0, 6)] 5 (.t 55) (.t 53))])
  (.rg [o1 56 (.copy 1),
    o1 57 (.data (.bin .add) [.t 56, .c (.int .i64 (1))]),
    o1 1 (.copy 57)])))))))))))))
  (.rg [o1 10 (.copy 5),
    o1 11 (.data (.bin .add) [.t 10, .c (.int .i64 (1))]),
    o1 5 (.copy 11)])))))))
 (.seq (.rg [o1 58 (.copy 1),
   o1 4 (.copy 58)])
 .ret)))
def s_lmarkSaidS : Sig := ⟨[.mt false [.sl (.own none) [.d, .d, .d, .d, .d, .d]], .rd false [.d]], (.one false [.d])⟩
noncomputable def E_lmarkSaidS : TEnv := envOf []
noncomputable def f_lmarkSaidS (n : Nat) : (List (Int × Int × Int × Int × Int × Int)) × Int → Option ((Int) × List (Int × Int × Int × Int × Int × Int)) := runFn n E_lmarkSaidS c_lmarkSaidS [[.sl [.i .i64, .i .i64, .i .i64, .i .i64, .i .i64, .i .i64]], [.i .i64]] [.i .i64] [.sl [.i .i64, .i .i64, .i .i64, .i .i64, .i .i64, .i .i64]] [4] (.mt 0 0 0)
noncomputable def g_lmarkSaidS := f_lmarkSaidS BIG
noncomputable def p_lmarkSaidS : TSp := ⟨s_lmarkSaidS, [[.sl [.i .i64, .i .i64, .i .i64, .i .i64, .i .i64, .i .i64]], [.i .i64]], [.i .i64], [.sl [.i .i64, .i .i64, .i .i64, .i .i64, .i .i64, .i .i64]], Ou.j (.mt 0 0 0), g_lmarkSaidS⟩
theorem k_lmarkSaidS : chkW PG E_lmarkSaidS 210 s_lmarkSaidS (c_lmarkSaidS.ht 59) (.mt 0 0 0) = some (c_lmarkSaidS.wc E_lmarkSaidS, [4]) := by kernel_rfl
theorem ok_lmarkSaidS : p_lmarkSaidS.Ok PG 210 := mkOk (env_nil PG) k_lmarkSaidS (by kernel_rfl)
theorem e_lmarkSaidS (n : Nat) (a0 : List (Int × Int × Int × Int × Int × Int)) (a1 : Int) : f_lmarkSaidS n (a0, a1) =
  Option.bind (loopT n (X := (List (Int × Int × Int × Int × Int × Int)) × Int × Int) (B := (List (Int × Int × Int × Int × Int × Int)) × Int) (fun self1 x0 =>
    bif decide (x0.2.2 < (x0.1.length : Int)) then
     bnd x0.1.length x0.2.2 fun n2 =>
     Option.bind x0.1[n2]? fun y3 =>
     bnd (x0.1.set n2 (x0.2.1, y3.2)).length x0.2.2 fun n4 =>
     Option.bind (x0.1.set n2 (x0.2.1, y3.2))[n4]? fun y5 =>
     bnd ((x0.1.set n2 (x0.2.1, y3.2)).set n4 (y5.1, IntKind.wrap .i64 (x0.2.1 + (1 : Int)), y5.2.2)).length x0.2.2 fun n6 =>
     Option.bind ((x0.1.set n2 (x0.2.1, y3.2)).set n4 (y5.1, IntKind.wrap .i64 (x0.2.1 + (1 : Int)), y5.2.2))[n6]? fun y7 =>
     bnd (((x0.1.set n2 (x0.2.1, y3.2)).set n4 (y5.1, IntKind.wrap .i64 (x0.2.1 + (1 : Int)), y5.2.2)).set n6 (y7.1, y7.2.1, IntKind.wrap .i64 ((IntKind.wrap .i64 (x0.2.1 + (1 : Int))) + (1 : Int)), y7.2.2.2)).length x0.2.2 fun n8 =>
     Option.bind (((x0.1.set n2 (x0.2.1, y3.2)).set n4 (y5.1, IntKind.wrap .i64 (x0.2.1 + (1 : Int)), y5.2.2)).set n6 (y7.1, y7.2.1, IntKind.wrap .i64 ((IntKind.wrap .i64 (x0.2.1 + (1 : Int))) + (1 : Int)), y7.2.2.2))[n8]? fun y9 =>
     bnd ((((x0.1.set n2 (x0.2.1, y3.2)).set n4 (y5.1, IntKind.wrap .i64 (x0.2.1 + (1 : Int)), y5.2.2)).set n6 (y7.1, y7.2.1, IntKind.wrap .i64 ((IntKind.wrap .i64 (x0.2.1 + (1 : Int))) + (1 : Int)), y7.2.2.2)).set n8 (y9.1, y9.2.1, y9.2.2.1, IntKind.wrap .i64 ((IntKind.wrap .i64 ((IntKind.wrap .i64 (x0.2.1 + (1 : Int))) + (1 : Int))) + (1 : Int)), y9.2.2.2.2)).length x0.2.2 fun n10 =>
     Option.bind ((((x0.1.set n2 (x0.2.1, y3.2)).set n4 (y5.1, IntKind.wrap .i64 (x0.2.1 + (1 : Int)), y5.2.2)).set n6 (y7.1, y7.2.1, IntKind.wrap .i64 ((IntKind.wrap .i64 (x0.2.1 + (1 : Int))) + (1 : Int)), y7.2.2.2)).set n8 (y9.1, y9.2.1, y9.2.2.1, IntKind.wrap .i64 ((IntKind.wrap .i64 ((IntKind.wrap .i64 (x0.2.1 + (1 : Int))) + (1 : Int))) + (1 : Int)), y9.2.2.2.2))[n10]? fun y11 =>
     bnd (((((x0.1.set n2 (x0.2.1, y3.2)).set n4 (y5.1, IntKind.wrap .i64 (x0.2.1 + (1 : Int)), y5.2.2)).set n6 (y7.1, y7.2.1, IntKind.wrap .i64 ((IntKind.wrap .i64 (x0.2.1 + (1 : Int))) + (1 : Int)), y7.2.2.2)).set n8 (y9.1, y9.2.1, y9.2.2.1, IntKind.wrap .i64 ((IntKind.wrap .i64 ((IntKind.wrap .i64 (x0.2.1 + (1 : Int))) + (1 : Int))) + (1 : Int)), y9.2.2.2.2)).set n10 (y11.1, y11.2.1, y11.2.2.1, y11.2.2.2.1, IntKind.wrap .i64 ((IntKind.wrap .i64 ((IntKind.wrap .i64 ((IntKind.wrap .i64 (x0.2.1 + (1 : Int))) + (1 : Int))) + (1 : Int))) + (1 : Int)), y11.2.2.2.2.2)).length x0.2.2 fun n12 =>
     Option.bind (((((x0.1.set n2 (x0.2.1, y3.2)).set n4 (y5.1, IntKind.wrap .i64 (x0.2.1 + (1 : Int)), y5.2.2)).set n6 (y7.1, y7.2.1, IntKind.wrap .i64 ((IntKind.wrap .i64 (x0.2.1 + (1 : Int))) + (1 : Int)), y7.2.2.2)).set n8 (y9.1, y9.2.1, y9.2.2.1, IntKind.wrap .i64 ((IntKind.wrap .i64 ((IntKind.wrap .i64 (x0.2.1 + (1 : Int))) + (1 : Int))) + (1 : Int)), y9.2.2.2.2)).set n10 (y11.1, y11.2.1, y11.2.2.1, y11.2.2.2.1, IntKind.wrap .i64 ((IntKind.wrap .i64 ((IntKind.wrap .i64 ((IntKind.wrap .i64 (x0.2.1 + (1 : Int))) + (1 : Int))) + (1 : Int))) + (1 : Int)), y11.2.2.2.2.2))[n12]? fun y13 =>
     self1 ((((((x0.1.set n2 (x0.2.1, y3.2)).set n4 (y5.1, IntKind.wrap .i64 (x0.2.1 + (1 : Int)), y5.2.2)).set n6 (y7.1, y7.2.1, IntKind.wrap .i64 ((IntKind.wrap .i64 (x0.2.1 + (1 : Int))) + (1 : Int)), y7.2.2.2)).set n8 (y9.1, y9.2.1, y9.2.2.1, IntKind.wrap .i64 ((IntKind.wrap .i64 ((IntKind.wrap .i64 (x0.2.1 + (1 : Int))) + (1 : Int))) + (1 : Int)), y9.2.2.2.2)).set n10 (y11.1, y11.2.1, y11.2.2.1, y11.2.2.2.1, IntKind.wrap .i64 ((IntKind.wrap .i64 ((IntKind.wrap .i64 ((IntKind.wrap .i64 (x0.2.1 + (1 : Int))) + (1 : Int))) + (1 : Int))) + (1 : Int)), y11.2.2.2.2.2)).set n12 (y13.1, y13.2.1, y13.2.2.1, y13.2.2.2.1, y13.2.2.2.2.1, IntKind.wrap .i64 ((IntKind.wrap .i64 ((IntKind.wrap .i64 ((IntKind.wrap .i64 ((IntKind.wrap .i64 (x0.2.1 + (1 : Int))) + (1 : Int))) + (1 : Int))) + (1 : Int))) + (1 : Int))), IntKind.wrap .i64 ((IntKind.wrap .i64 ((IntKind.wrap .i64 ((IntKind.wrap .i64 ((IntKind.wrap .i64 ((IntKind.wrap .i64 (x0.2.1 + (1 : Int))) + (1 : Int))) + (1 : Int))) + (1 : Int))) + (1 : Int))) + (1 : Int)), IntKind.wrap .i64 (x0.2.2 + (1 : Int)))
    else some (x0.1, x0.2.1)) (a0, a1, (0 : Int)) : Option ((List (Int × Int × Int × Int × Int × Int)) × Int)) fun x14 =>
  some (x14.2, x14.1) := by kernel_rfl
/- laws.markHead -/
def c_lmarkHead : TC :=
 (.seq (.rg [⟨false, [], [], .det 2 (.a (.t 0)), [2, 0], (some 2), none⟩,
   o1 4 (.lit [.i .i64] [.int .i64 (0)])])
 (.seq (.rg [o1 5 (.idx .nil),
   o1 6 (.load 2 [] 1 (.t 5) 1 true),
   o1 7 (.copy 1),
   ⟨false, [], [], .call 2 44 [.t 6, .t 7] (.mt 2 [] 1 6 0), [8, 2, 6], (some 8), none⟩,
   o1 1 (.copy 8)])
 (.seq (.rg [o1 9 (.idx .nil),
   o1 10 (.load 2 [] 2 (.t 9) 1 true),
   o1 11 (.copy 1),
   ⟨false, [], [], .call 2 43 [.t 10, .t 11] (.mt 2 [] 2 10 0), [12, 2, 10], (some 12), none⟩,
   o1 1 (.copy 12)])
 (.seq (.rg [o1 13 (.idx .nil),
   o1 14 (.load 2 [] 3 (.t 13) 1 true),
   o1 15 (.copy 1),
   ⟨false, [], [], .call 2 42 [.t 14, .t 15] (.mt 2 [] 3 14 0), [16, 2, 14], (some 16), none⟩,
   o1 1 (.copy 16)])
 (.seq (.rg [o1 17 (.idx .nil),
   o1 18 (.load 2 [] 4 (.t 17) 1 true),
   o1 19 (.copy 1),
   ⟨false, [], [], .call 2 44 [.t 18, .t 19] (.mt 2 [] 4 18 0), [20, 2, 18], (some 20), none⟩,
   o1 1 (.copy 20)])
 (.seq (.rg [o1 21 (.idx .nil),
   o1 22 (.load 2 [] 5 (.t 21) 9 true),
   o1 23 (.copy 1),
   ⟨false, [], [], .call 2 209 [.t 22, .t 23] (.mt 2 [] 5 22 0), [24, 2, 22], (some 24), none⟩,
   o1 1 (.copy 24)])
 (.seq (.rg [o1 25 (.idx .nil),
   o1 26 (.load 2 [] 14 (.t 25) 1 true),
   o1 27 (.copy 1),
   ⟨false, [], [], .call 2 210 [.t 26, .t 27] (.mt 2 [] 14 26 0), [28, 2, 26], (some 28), none⟩,
   o1 1 (.copy 28)])
 (.seq (.rg [o1 29 (.copy 1),
   o1 4 (.copy 29)])
 .ret))))))))
def s_lmarkHead : Sig := ⟨[.mt true [.d, .sl (.own none) [.d], .sl (.own none) [.d, .d], .sl (.own none) [.sl (.own none) [.d]], .sl (.own none) [.d], .d, .d, .d, .d, .d, .d, .d, .sl (.own none) [.d, .d], .d, .sl (.own none) [.d, .d, .d, .d, .d, .d]], .rd false [.d]], (.one false [.d])⟩
noncomputable def E_lmarkHead : TEnv := envOf [(44, p_lmarkIntS), (43, p_lmarkEdgeS), (42, p_lmarkIntSS), (209, p_lmarkTask), (210, p_lmarkSaidS)]
noncomputable def f_lmarkHead (n : Nat) : (Int × List (Int) × List (Int × Int) × List (List (Int)) × List (Int) × Int × Int × Int × Int × Int × Int × Int × List (Int × Int) × Int × List (Int × Int × Int × Int × Int × Int)) × Int → Option ((Int) × Int × List (Int) × List (Int × Int) × List (List (Int)) × List (Int) × Int × Int × Int × Int × Int × Int × Int × List (Int × Int) × Int × List (Int × Int × Int × Int × Int × Int)) := runFn n E_lmarkHead c_lmarkHead [[.i .i64, .sl [.i .i64], .sl [.i .i64, .i .i64], .sl [.sl [.i .i64]], .sl [.i .i64], .i .i64, .i .i64, .i .i64, .i .i64, .i .i64, .i .i64, .i .i64, .sl [.i .i64, .i .i64], .i .i64, .sl [.i .i64, .i .i64, .i .i64, .i .i64, .i .i64, .i .i64]], [.i .i64]] [.i .i64] [.i .i64, .sl [.i .i64], .sl [.i .i64, .i .i64], .sl [.sl [.i .i64]], .sl [.i .i64], .i .i64, .i .i64, .i .i64, .i .i64, .i .i64, .i .i64, .i .i64, .sl [.i .i64, .i .i64], .i .i64, .sl [.i .i64, .i .i64, .i .i64, .i .i64, .i .i64, .i .i64]] [4] (.mt 0 2 0)
noncomputable def g_lmarkHead := f_lmarkHead BIG
noncomputable def p_lmarkHead : TSp := ⟨s_lmarkHead, [[.i .i64, .sl [.i .i64], .sl [.i .i64, .i .i64], .sl [.sl [.i .i64]], .sl [.i .i64], .i .i64, .i .i64, .i .i64, .i .i64, .i .i64, .i .i64, .i .i64, .sl [.i .i64, .i .i64], .i .i64, .sl [.i .i64, .i .i64, .i .i64, .i .i64, .i .i64, .i .i64]], [.i .i64]], [.i .i64], [.i .i64, .sl [.i .i64], .sl [.i .i64, .i .i64], .sl [.sl [.i .i64]], .sl [.i .i64], .i .i64, .i .i64, .i .i64, .i .i64, .i .i64, .i .i64, .i .i64, .sl [.i .i64, .i .i64], .i .i64, .sl [.i .i64, .i .i64, .i .i64, .i .i64, .i .i64, .i .i64]], Ou.j (.mt 0 2 0), g_lmarkHead⟩
theorem k_lmarkHead : chkW PG E_lmarkHead 81 s_lmarkHead (c_lmarkHead.ht 30) (.mt 0 2 0) = some (c_lmarkHead.wc E_lmarkHead, [4]) := by kernel_rfl
theorem ok_lmarkHead : p_lmarkHead.Ok PG 81 := mkOk (env_cons ok_lmarkIntS (env_cons ok_lmarkEdgeS (env_cons ok_lmarkIntSS (env_cons ok_lmarkTask (env_cons ok_lmarkSaidS (env_nil PG)))))) k_lmarkHead (by kernel_rfl)
theorem e_lmarkHead (n : Nat) (a0 : Int × List (Int) × List (Int × Int) × List ((List (Int))) × List (Int) × Int × Int × Int × Int × Int × Int × Int × List (Int × Int) × Int × List (Int × Int × Int × Int × Int × Int)) (a1 : Int) : f_lmarkHead n (a0, a1) =
  Option.bind (g_lmarkIntS (a0.2.1, a1)) fun r0 =>
  Option.bind (g_lmarkEdgeS (a0.2.2.1, r0.1)) fun r1 =>
  Option.bind (g_lmarkIntSS (a0.2.2.2.1, r1.1)) fun r2 =>
  Option.bind (g_lmarkIntS (a0.2.2.2.2.1, r2.1)) fun r3 =>
  Option.bind (g_lmarkTask ((a0.2.2.2.2.2.1, a0.2.2.2.2.2.2.1, a0.2.2.2.2.2.2.2.1, a0.2.2.2.2.2.2.2.2.1, a0.2.2.2.2.2.2.2.2.2.1, a0.2.2.2.2.2.2.2.2.2.2.1, a0.2.2.2.2.2.2.2.2.2.2.2.1, a0.2.2.2.2.2.2.2.2.2.2.2.2.1, a0.2.2.2.2.2.2.2.2.2.2.2.2.2.1), r3.1)) fun r4 =>
  Option.bind (g_lmarkSaidS (a0.2.2.2.2.2.2.2.2.2.2.2.2.2.2, r4.1)) fun r5 =>
  some (r5.1, (a0.1, r0.2, r1.2, r2.2, r3.2, a0.2.2.2.2.2.1, a0.2.2.2.2.2.2.1, a0.2.2.2.2.2.2.2.1, a0.2.2.2.2.2.2.2.2.1, a0.2.2.2.2.2.2.2.2.2.1, a0.2.2.2.2.2.2.2.2.2.2.1, a0.2.2.2.2.2.2.2.2.2.2.2.1, r4.2.2.2.2.2.2.2.2.1, a0.2.2.2.2.2.2.2.2.2.2.2.2.2.1, r5.2)) := by kernel_rfl
/- laws.heldIntS -/
def c_lheldIntS : TC :=
 (.seq (.rg [o1 4 (.lit [.i .i64] [.int .i64 (0)])])
 (.seq (.join [⟨1, [.i .i64], false⟩] 1048562 (some [⟨4, [.i .i64], false⟩]) (.seq (.rg [o1 5 (.lit [.i .i64] [.int .i64 (0)])])
 (.block 0 (.loop [⟨1, [.i .i64], false⟩, ⟨5, [.i .i64], false⟩] 1048562
  (.seq (.seq (.rg [o1 6 (.copy 5),
    o1 7 (.copy 0),
    o1 8 (.len 7),
    o1 9 (.data (.bin .lss) [.t 6, .t 8])])
  (.cond (.t 9)
   .skip
   (.exit 0)))
  (.seq (.block 1 (.seq (.seq (.rg [o1 12 (.copy 0),
    o1 13 (.copy 5),
    o1 14 (.index 12 (.t 13)),
    o1 15 (.load 12 [(0, 1)] 0 (.t 14) 1 false),
    o1 16 (.copy 1),
    o1 17 (.data (.bin .neq) [.t 15, .t 16])])
  (.cond (.t 17)
   (.seq (.rg [o1 4 (.lit [.i .i64] [.int .i64 (-1)])])
   .ret)
   .skip))
  (.rg [o1 18 (.copy 1),
    o1 19 (.data (.bin .add) [.t 18, .c (.int .i64 (1))]),
    o1 1 (.copy 19)])))
  (.rg [o1 10 (.copy 5),
    o1 11 (.data (.bin .add) [.t 10, .c (.int .i64 (1))]),
    o1 5 (.copy 11)])))))))
 (.seq (.rg [o1 20 (.copy 1),
   o1 4 (.copy 20)])
 .ret)))
def s_lheldIntS : Sig := ⟨[.rd false [.sl (.own none) [.d]], .rd false [.d]], (.one false [.d])⟩
noncomputable def E_lheldIntS : TEnv := envOf []
noncomputable def f_lheldIntS (n : Nat) : List (Int) × Int → Option ((Int) × Unit) := runFn n E_lheldIntS c_lheldIntS [[.sl [.i .i64]], [.i .i64]] [.i .i64] [] [4] .no
noncomputable def g_lheldIntS := f_lheldIntS BIG
noncomputable def p_lheldIntS : TSp := ⟨s_lheldIntS, [[.sl [.i .i64]], [.i .i64]], [.i .i64], [], Ou.j .no, g_lheldIntS⟩
theorem k_lheldIntS : chkW PG E_lheldIntS 45 s_lheldIntS (c_lheldIntS.ht 21) .no = some (c_lheldIntS.wc E_lheldIntS, [4]) := by kernel_rfl
theorem ok_lheldIntS : p_lheldIntS.Ok PG 45 := mkOk (env_nil PG) k_lheldIntS (by kernel_rfl)
theorem e_lheldIntS (n : Nat) (a0 : List (Int)) (a1 : Int) : f_lheldIntS n (a0, a1) =
  Option.bind (loopT n (X := Int × Int) (B := (Int) ⊕ (Int)) (fun self1 x0 =>
    bif decide (x0.2 < (a0.length : Int)) then
     bnd a0.length x0.2 fun n2 =>
     Option.bind a0[n2]? fun y3 =>
     bif !decide (y3 = x0.1) then
      some (Sum.inr (-1 : Int))
     else self1 (IntKind.wrap .i64 (x0.1 + (1 : Int)), IntKind.wrap .i64 (x0.2 + (1 : Int)))
    else some (Sum.inl x0.1)) (a1, (0 : Int)) : Option ((Int) ⊕ (Int))) fun y => match y with
  | .inl x4 =>
   some (x4, ())
  | .inr x4 =>
   some (x4, ()) := by kernel_rfl
/- laws.heldEdgeS -/
def c_lheldEdgeS : TC :=
 (.seq (.rg [o1 4 (.lit [.i .i64] [.int .i64 (0)])])
 (.seq (.join [⟨1, [.i .i64], false⟩] 1073741810 (some [⟨4, [.i .i64], false⟩]) (.seq (.rg [o1 5 (.lit [.i .i64] [.int .i64 (0)])])
 (.block 0 (.loop [⟨1, [.i .i64], false⟩, ⟨5, [.i .i64], false⟩] 1073741810
  (.seq (.seq (.rg [o1 6 (.copy 5),
    o1 7 (.copy 0),
    o1 8 (.len 7),
    o1 9 (.data (.bin .lss) [.t 6, .t 8])])
  (.cond (.t 9)
   .skip
   (.exit 0)))
  (.seq (.block 1 (.seq (.seq (.rg [o1 12 (.copy 0),
    o1 13 (.copy 5),
    o1 14 (.index 12 (.t 13)),
    o1 15 (.idx (.t 14)),
    o1 16 (.load 12 [(0, 2)] 0 (.t 15) 1 false),
    o1 17 (.copy 1),
    o1 18 (.data (.bin .neq) [.t 16, .t 17])])
  (.cond (.t 18)
   (.seq (.rg [o1 4 (.lit [.i .i64] [.int .i64 (-1)])])
   .ret)
   .skip))
  (.seq (.rg [o1 19 (.copy 1),
    o1 20 (.data (.bin .add) [.t 19, .c (.int .i64 (1))]),
    o1 1 (.copy 20)])
  (.seq (.seq (.rg [o1 21 (.copy 0),
    o1 22 (.copy 5),
    o1 23 (.index 21 (.t 22)),
    o1 24 (.idx (.t 23)),
    o1 25 (.load 21 [(0, 2)] 1 (.t 24) 1 false),
    o1 26 (.copy 1),
    o1 27 (.data (.bin .neq) [.t 25, .t 26])])
  (.cond (.t 27)
   (.seq (.rg [o1 4 (.lit [.i .i64] [.int .i64 (-1)])])
   .ret)
   .skip))
  (.rg [o1 28 (.copy 1),
    o1 29 (.data (.bin .add) [.t 28, .c (.int .i64 (1))]),
    o1 1 (.copy 29)])))))
  (.rg [o1 10 (.copy 5),
    o1 11 (.data (.bin .add) [.t 10, .c (.int .i64 (1))]),
    o1 5 (.copy 11)])))))))
 (.seq (.rg [o1 30 (.copy 1),
   o1 4 (.copy 30)])
 .ret)))
def s_lheldEdgeS : Sig := ⟨[.rd false [.sl (.own none) [.d, .d]], .rd false [.d]], (.one false [.d])⟩
noncomputable def E_lheldEdgeS : TEnv := envOf []
noncomputable def f_lheldEdgeS (n : Nat) : (List (Int × Int)) × Int → Option ((Int) × Unit) := runFn n E_lheldEdgeS c_lheldEdgeS [[.sl [.i .i64, .i .i64]], [.i .i64]] [.i .i64] [] [4] .no
noncomputable def g_lheldEdgeS := f_lheldEdgeS BIG
noncomputable def p_lheldEdgeS : TSp := ⟨s_lheldEdgeS, [[.sl [.i .i64, .i .i64]], [.i .i64]], [.i .i64], [], Ou.j .no, g_lheldEdgeS⟩
theorem k_lheldEdgeS : chkW PG E_lheldEdgeS 63 s_lheldEdgeS (c_lheldEdgeS.ht 31) .no = some (c_lheldEdgeS.wc E_lheldEdgeS, [4]) := by kernel_rfl
theorem ok_lheldEdgeS : p_lheldEdgeS.Ok PG 63 := mkOk (env_nil PG) k_lheldEdgeS (by kernel_rfl)
theorem e_lheldEdgeS (n : Nat) (a0 : List (Int × Int)) (a1 : Int) : f_lheldEdgeS n (a0, a1) =
  Option.bind (loopT n (X := Int × Int) (B := (Int) ⊕ (Int)) (fun self1 x0 =>
    bif decide (x0.2 < (a0.length : Int)) then
     bnd a0.length x0.2 fun n2 =>
     Option.bind a0[n2]? fun y3 =>
     bif !decide (y3.1 = x0.1) then
      some (Sum.inr (-1 : Int))
     else bnd a0.length x0.2 fun n4 =>
     Option.bind a0[n4]? fun y5 =>
     bif !decide (y5.2 = (IntKind.wrap .i64 (x0.1 + (1 : Int)))) then
      some (Sum.inr (-1 : Int))
     else self1 (IntKind.wrap .i64 ((IntKind.wrap .i64 (x0.1 + (1 : Int))) + (1 : Int)), IntKind.wrap .i64 (x0.2 + (1 : Int)))
    else some (Sum.inl x0.1)) (a1, (0 : Int)) : Option ((Int) ⊕ (Int))) fun y => match y with
  | .inl x6 =>
   some (x6, ())
  | .inr x6 =>
   some (x6, ()) := by kernel_rfl
/- laws.heldIntSS -/
def c_lheldIntSS : TC :=
 (.seq (.rg [o1 4 (.lit [.i .i64] [.int .i64 (0)])])
 (.seq (.join [⟨1, [.i .i64], false⟩] 1048562 (some [⟨4, [.i .i64], false⟩]) (.seq (.rg [o1 5 (.lit [.i .i64] [.int .i64 (0)])])
 (.block 0 (.loop [⟨1, [.i .i64], false⟩, ⟨5, [.i .i64], false⟩] 1048562
  (.seq (.seq (.rg [o1 6 (.copy 5),
    o1 7 (.copy 0),
    o1 8 (.len 7),
    o1 9 (.data (.bin .lss) [.t 6, .t 8])])
  (.cond (.t 9)
   .skip
   (.exit 0)))
  (.seq (.block 1 (.seq (.rg [o1 12 (.copy 0),
    o1 13 (.copy 5),
    o1 14 (.index 12 (.t 13)),
    o1 15 (.load 12 [(0, 1)] 0 (.t 14) 1 false),
    o1 16 (.copy 1),
    o3 17 45 [.t 15, .t 16],
    o1 1 (.copy 17)])
  (.seq (.rg [o1 18 (.copy 1),
    o1 19 (.data (.bin .lss) [.t 18, .c (.int .i64 (0))])])
  (.cond (.t 19)
   (.seq (.rg [o1 4 (.lit [.i .i64] [.int .i64 (-1)])])
   .ret)
   .skip))))
  (.rg [o1 10 (.copy 5),
    o1 11 (.data (.bin .add) [.t 10, .c (.int .i64 (1))]),
    o1 5 (.copy 11)])))))))
 (.seq (.rg [o1 20 (.copy 1),
   o1 4 (.copy 20)])
 .ret)))
def s_lheldIntSS : Sig := ⟨[.rd false [.sl (.own none) [.sl (.own none) [.d]]], .rd false [.d]], (.one false [.d])⟩
noncomputable def E_lheldIntSS : TEnv := envOf [(45, p_lheldIntS)]
noncomputable def f_lheldIntSS (n : Nat) : List (List (Int)) × Int → Option ((Int) × Unit) := runFn n E_lheldIntSS c_lheldIntSS [[.sl [.sl [.i .i64]]], [.i .i64]] [.i .i64] [] [4] .no
noncomputable def g_lheldIntSS := f_lheldIntSS BIG
noncomputable def p_lheldIntSS : TSp := ⟨s_lheldIntSS, [[.sl [.sl [.i .i64]]], [.i .i64]], [.i .i64], [], Ou.j .no, g_lheldIntSS⟩
theorem k_lheldIntSS : chkW PG E_lheldIntSS 211 s_lheldIntSS (c_lheldIntSS.ht 21) .no = some (c_lheldIntSS.wc E_lheldIntSS, [4]) := by kernel_rfl
theorem ok_lheldIntSS : p_lheldIntSS.Ok PG 211 := mkOk (env_cons ok_lheldIntS (env_nil PG)) k_lheldIntSS (by kernel_rfl)
theorem e_lheldIntSS (n : Nat) (a0 : List ((List (Int)))) (a1 : Int) : f_lheldIntSS n (a0, a1) =
  Option.bind (loopT n (X := Int × Int) (B := (Int) ⊕ (Int)) (fun self1 x0 =>
    bif decide (x0.2 < (a0.length : Int)) then
     bnd a0.length x0.2 fun n2 =>
     Option.bind a0[n2]? fun y3 =>
     Option.bind (g_lheldIntS (y3, x0.1)) fun r4 =>
     bif decide (r4.1 < (0 : Int)) then
      some (Sum.inr (-1 : Int))
     else self1 (r4.1, IntKind.wrap .i64 (x0.2 + (1 : Int)))
    else some (Sum.inl x0.1)) (a1, (0 : Int)) : Option ((Int) ⊕ (Int))) fun y => match y with
  | .inl x5 =>
   some (x5, ())
  | .inr x5 =>
   some (x5, ()) := by kernel_rfl
/- laws.heldOrder -/
def c_lheldOrder : TC :=
 (.seq (.rg [o1 2 (.a (.t 0)),
   o1 4 (.lit [.i .i64] [.int .i64 (0)])])
 (.seq (.rg [o1 5 (.idx .nil),
   o1 6 (.load 2 [] 2 (.t 5) 1 false),
   o1 7 (.copy 1),
   o3 8 63 [.t 6, .t 7],
   o1 1 (.copy 8)])
 (.seq (.seq (.rg [o1 9 (.copy 1),
   o1 10 (.data (.bin .lss) [.t 9, .c (.int .i64 (0))])])
 (.cond (.t 10)
  (.seq (.rg [o1 4 (.lit [.i .i64] [.int .i64 (-1)])])
  .ret)
  .skip))
 (.seq (.rg [o1 11 (.copy 1),
   o1 4 (.copy 11)])
 .ret))))
def s_lheldOrder : Sig := ⟨[.rd true [.d, .d, .sl (.own none) [.d, .d], .d], .rd false [.d]], (.one false [.d])⟩
noncomputable def E_lheldOrder : TEnv := envOf [(63, p_lheldEdgeS)]
noncomputable def f_lheldOrder (n : Nat) : (Int × Int × List (Int × Int) × Int) × Int → Option ((Int) × Unit) := runFn n E_lheldOrder c_lheldOrder [[.i .i64, .i .i64, .sl [.i .i64, .i .i64], .i .i64], [.i .i64]] [.i .i64] [] [4] .no
noncomputable def g_lheldOrder := f_lheldOrder BIG
noncomputable def p_lheldOrder : TSp := ⟨s_lheldOrder, [[.i .i64, .i .i64, .sl [.i .i64, .i .i64], .i .i64], [.i .i64]], [.i .i64], [], Ou.j .no, g_lheldOrder⟩
theorem k_lheldOrder : chkW PG E_lheldOrder 59 s_lheldOrder (c_lheldOrder.ht 12) .no = some (c_lheldOrder.wc E_lheldOrder, [4]) := by kernel_rfl
theorem ok_lheldOrder : p_lheldOrder.Ok PG 59 := mkOk (env_cons ok_lheldEdgeS (env_nil PG)) k_lheldOrder (by kernel_rfl)
theorem e_lheldOrder (n : Nat) (a0 : Int × Int × List (Int × Int) × Int) (a1 : Int) : f_lheldOrder n (a0, a1) =
  Option.bind (g_lheldEdgeS (a0.2.2.1, a1)) fun r0 =>
  bif decide (r0.1 < (0 : Int)) then
   some ((-1 : Int), ())
  else some (r0.1, ()) := by kernel_rfl
/- laws.heldTask -/
def c_lheldTask : TC :=
 (.seq (.rg [o1 2 (.a (.t 0)),
   o1 4 (.lit [.i .i64] [.int .i64 (0)])])
 (.seq (.rg [o1 5 (.idx .nil),
   o1 6 (.load 2 [] 5 (.t 5) 4 false),
   o1 7 (.copy 1),
   o3 8 59 [.t 6, .t 7],
   o1 1 (.copy 8)])
 (.seq (.seq (.rg [o1 9 (.copy 1),
   o1 10 (.data (.bin .lss) [.t 9, .c (.int .i64 (0))])])
 (.cond (.t 10)
  (.seq (.rg [o1 4 (.lit [.i .i64] [.int .i64 (-1)])])
  .ret)
  .skip))
 (.seq (.rg [o1 11 (.copy 1),
   o1 4 (.copy 11)])
 .ret))))
def s_lheldTask : Sig := ⟨[.rd true [.d, .d, .d, .d, .d, .d, .d, .sl (.own none) [.d, .d], .d], .rd false [.d]], (.one false [.d])⟩
noncomputable def E_lheldTask : TEnv := envOf [(59, p_lheldOrder)]
noncomputable def f_lheldTask (n : Nat) : (Int × Int × Int × Int × Int × Int × Int × List (Int × Int) × Int) × Int → Option ((Int) × Unit) := runFn n E_lheldTask c_lheldTask [[.i .i64, .i .i64, .i .i64, .i .i64, .i .i64, .i .i64, .i .i64, .sl [.i .i64, .i .i64], .i .i64], [.i .i64]] [.i .i64] [] [4] .no
noncomputable def g_lheldTask := f_lheldTask BIG
noncomputable def p_lheldTask : TSp := ⟨s_lheldTask, [[.i .i64, .i .i64, .i .i64, .i .i64, .i .i64, .i .i64, .i .i64, .sl [.i .i64, .i .i64], .i .i64], [.i .i64]], [.i .i64], [], Ou.j .no, g_lheldTask⟩
theorem k_lheldTask : chkW PG E_lheldTask 212 s_lheldTask (c_lheldTask.ht 12) .no = some (c_lheldTask.wc E_lheldTask, [4]) := by kernel_rfl
theorem ok_lheldTask : p_lheldTask.Ok PG 212 := mkOk (env_cons ok_lheldOrder (env_nil PG)) k_lheldTask (by kernel_rfl)
theorem e_lheldTask (n : Nat) (a0 : Int × Int × Int × Int × Int × Int × Int × List (Int × Int) × Int) (a1 : Int) : f_lheldTask n (a0, a1) =
  Option.bind (g_lheldOrder (a0.2.2.2.2.2, a1)) fun r0 =>
  bif decide (r0.1 < (0 : Int)) then
   some ((-1 : Int), ())
  else some (r0.1, ()) := by kernel_rfl
/- laws.heldSaidS -/
def c_lheldSaidS : TC :=
 (.seq (.rg [o1 4 (.lit [.i .i64] [.int .i64 (0)])])
 (.seq (.join [⟨1, [.i .i64], false⟩] 1180591620717411303410 (some [⟨4, [.i .i64], false⟩]) (.seq (.rg [o1 5 (.lit [.i .i64] [.int .i64 (0)])])
 (.block 0 (.loop [⟨1, [.i .i64], false⟩, ⟨5, [.i .i64], false⟩] 1180591620717411303410
  (.seq (.seq (.rg [o1 6 (.copy 5),
    o1 7 (.copy 0),
    o1 8 (.len 7),
    o1 9 (.data (.bin .lss) [.t 6, .t 8])])
  (.cond (.t 9)
   .skip
   (.exit 0)))
  (.seq (.block 1 (.seq (.seq (.rg [o1 12 (.copy 0),
    o1 13 (.copy 5),
    o1 14 (.index 12 (.t 13)),
    o1 15 (.idx (.t 14)),
    o1 16 (.load 12 [(0, 6)] 0 (.t 15) 1 false),
    o1 17 (.copy 1),
    o1 18 (.data (.bin .neq) [.t 16, .t 17])])
  (.cond (.t 18)
   (.seq (.rg [o1 4 (.lit [.i .i64] [.int .i64 (-1)])])
   .ret)
   .skip))
  (.seq (.rg [o1 19 (.copy 1),
    o1 20 (.data (.bin .add) [.t 19, .c (.int .i64 (1))]),
    o1 1 (.copy 20)])
  (.seq (.seq (.rg [o1 21 (.copy 0),
    o1 22 (.copy 5),
    o1 23 (.index 21 (.t 22)),
    o1 24 (.idx (.t 23)),
    o1 25 (.idx (.t 24)),
    o1 26 (.load 21 [(0, 6)] 1 (.t 25) 1 false),
    o1 27 (.copy 1),
    o1 28 (.data (.bin .neq) [.t 26, .t 27])])
  (.cond (.t 28)
   (.seq (.rg [o1 4 (.lit [.i .i64] [.int .i64 (-1)])])
   .ret)
   .skip))
  (.seq (.rg [o1 29 (.copy 1),
    o1 30 (.data (.bin .add) [.t 29, .c (.int .i64 (1))]),
    o1 1 (.copy 30)])
  (.seq (.seq (.rg [o1 31 (.copy 0),
    o1 32 (.copy 5),
    o1 33 (.index 31 (.t 32)),
    o1 34 (.idx (.t 33)),
    o1 35 (.idx (.t 34)),
    o1 36 (.load 31 [(0, 6)] 2 (.t 35) 1 false),
    o1 37 (.copy 1),
    o1 38 (.data (.bin .neq) [.t 36, .t 37])])
  (.cond (.t 38)
   (.seq (.rg [o1 4 (.lit [.i .i64] [.int .i64 (-1)])])
   .ret)
   .skip))
  (.seq (.rg [o1 39 (.copy 1),
    o1 40 (.data (.bin .add) [.t 39, .c (.int .i64 (1))]),
    o1 1 (.copy 40)])
  (.seq (.seq (.rg [o1 41 (.copy 0),
    o1 42 (.copy 5),
    o1 43 (.index 41 (.t 42)),
    o1 44 (.idx (.t 43)),
    o1 45 (.idx (.t 44)),
    o1 46 (.load 41 [(0, 6)] 3 (.t 45) 1 false),
    o1 47 (.copy 1),
    o1 48 (.data (.bin .neq) [.t 46, .t 47])])
  (.cond (.t 48)
   (.seq (.rg [o1 4 (.lit [.i .i64] [.int .i64 (-1)])])
   .ret)
   .skip))
  (.seq (.rg [o1 49 (.copy 1),
    o1 50 (.data (.bin .add) [.t 49, .c (.int .i64 (1))]),
    o1 1 (.copy 50)])
  (.seq (.seq (.rg [o1 51 (.copy 0),
    o1 52 (.copy 5),
    o1 53 (.index 51 (.t 52)),
    o1 54 (.idx (.t 53)),
    o1 55 (.idx (.t 54)),
    o1 56 (.load 51 [(0, 6)] 4 (.t 55) 1 false),
    o1 57 (.copy 1),
    o1 58 (.data (.bin .neq) [.t 56, .t 57])])
  (.cond (.t 58)
   (.seq (.rg [o1 4 (.lit [.i .i64] [.int .i64 (-1)])])
   .ret)
   .skip))
  (.seq (.rg [o1 59 (.copy 1),
    o1 60 (.data (.bin .add) [.t 59, .c (.int .i64 (1))]),
    o1 1 (.copy 60)])
  (.seq (.seq (.rg [o1 61 (.copy 0),
    o1 62 (.copy 5),
    o1 63 (.index 61 (.t 62)),
    o1 64 (.idx (.t 63)),
    o1 65 (.load 61 [(0, 6)] 5 (.t 64) 1 false),
    o1 66 (.copy 1),
    o1 67 (.data (.bin .neq) [.t 65, .t 66])])
  (.cond (.t 67)
   (.seq (.rg [o1 4 (.lit [.i .i64] [.int .i64 (-1)])])
   .ret)
   .skip))
  (.rg [o1 68 (.copy 1),
    o1 69 (.data (.bin .add) [.t 68, .c (.int .i64 (1))]),
    o1 1 (.copy 69)])))))))))))))
  (.rg [o1 10 (.copy 5),
    o1 11 (.data (.bin .add) [.t 10, .c (.int .i64 (1))]),
    o1 5 (.copy 11)])))))))
 (.seq (.rg [o1 70 (.copy 1),
   o1 4 (.copy 70)])
 .ret)))
def s_lheldSaidS : Sig := ⟨[.rd false [.sl (.own none) [.d, .d, .d, .d, .d, .d]], .rd false [.d]], (.one false [.d])⟩
noncomputable def E_lheldSaidS : TEnv := envOf []
noncomputable def f_lheldSaidS (n : Nat) : (List (Int × Int × Int × Int × Int × Int)) × Int → Option ((Int) × Unit) := runFn n E_lheldSaidS c_lheldSaidS [[.sl [.i .i64, .i .i64, .i .i64, .i .i64, .i .i64, .i .i64]], [.i .i64]] [.i .i64] [] [4] .no
noncomputable def g_lheldSaidS := f_lheldSaidS BIG
noncomputable def p_lheldSaidS : TSp := ⟨s_lheldSaidS, [[.sl [.i .i64, .i .i64, .i .i64, .i .i64, .i .i64, .i .i64]], [.i .i64]], [.i .i64], [], Ou.j .no, g_lheldSaidS⟩
theorem k_lheldSaidS : chkW PG E_lheldSaidS 213 s_lheldSaidS (c_lheldSaidS.ht 71) .no = some (c_lheldSaidS.wc E_lheldSaidS, [4]) := by kernel_rfl
theorem ok_lheldSaidS : p_lheldSaidS.Ok PG 213 := mkOk (env_nil PG) k_lheldSaidS (by kernel_rfl)
theorem e_lheldSaidS (n : Nat) (a0 : List (Int × Int × Int × Int × Int × Int)) (a1 : Int) : f_lheldSaidS n (a0, a1) =
  Option.bind (loopT n (X := Int × Int) (B := (Int) ⊕ (Int)) (fun self1 x0 =>
    bif decide (x0.2 < (a0.length : Int)) then
     bnd a0.length x0.2 fun n2 =>
     Option.bind a0[n2]? fun y3 =>
     bif !decide (y3.1 = x0.1) then
      some (Sum.inr (-1 : Int))
     else bnd a0.length x0.2 fun n4 =>
     Option.bind a0[n4]? fun y5 =>
     bif !decide (y5.2.1 = (IntKind.wrap .i64 (x0.1 + (1 : Int)))) then
      some (Sum.inr (-1 : Int))
     else bnd a0.length x0.2 fun n6 =>
     Option.bind a0[n6]? fun y7 =>
     bif !decide (y7.2.2.1 = (IntKind.wrap .i64 ((IntKind.wrap .i64 (x0.1 + (1 : Int))) + (1 : Int)))) then
      some (Sum.inr (-1 : Int))
     else bnd a0.length x0.2 fun n8 =>
     Option.bind a0[n8]? fun y9 =>
     bif !decide (y9.2.2.2.1 = (IntKind.wrap .i64 ((IntKind.wrap .i64 ((IntKind.wrap .i64 (x0.1 + (1 : Int))) + (1 : Int))) + (1 : Int)))) then
      some (Sum.inr (-1 : Int))
     else bnd a0.length x0.2 fun n10 =>
     Option.bind a0[n10]? fun y11 =>
     bif !decide (y11.2.2.2.2.1 = (IntKind.wrap .i64 ((IntKind.wrap .i64 ((IntKind.wrap .i64 ((IntKind.wrap .i64 (x0.1 + (1 : Int))) + (1 : Int))) + (1 : Int))) + (1 : Int)))) then
      some (Sum.inr (-1 : Int))
     else bnd a0.length x0.2 fun n12 =>
     Option.bind a0[n12]? fun y13 =>
     bif !decide (y13.2.2.2.2.2 = (IntKind.wrap .i64 ((IntKind.wrap .i64 ((IntKind.wrap .i64 ((IntKind.wrap .i64 ((IntKind.wrap .i64 (x0.1 + (1 : Int))) + (1 : Int))) + (1 : Int))) + (1 : Int))) + (1 : Int)))) then
      some (Sum.inr (-1 : Int))
     else self1 (IntKind.wrap .i64 ((IntKind.wrap .i64 ((IntKind.wrap .i64 ((IntKind.wrap .i64 ((IntKind.wrap .i64 ((IntKind.wrap .i64 (x0.1 + (1 : Int))) + (1 : Int))) + (1 : Int))) + (1 : Int))) + (1 : Int))) + (1 : Int)), IntKind.wrap .i64 (x0.2 + (1 : Int)))
    else some (Sum.inl x0.1)) (a1, (0 : Int)) : Option ((Int) ⊕ (Int))) fun y => match y with
  | .inl x14 =>
   some (x14, ())
  | .inr x14 =>
   some (x14, ()) := by kernel_rfl
/- laws.heldHead -/
def c_lheldHead : TC :=
 (.seq (.rg [o1 2 (.a (.t 0)),
   o1 4 (.lit [.i .i64] [.int .i64 (0)])])
 (.seq (.rg [o1 5 (.idx .nil),
   o1 6 (.load 2 [] 1 (.t 5) 1 false),
   o1 7 (.copy 1),
   o3 8 45 [.t 6, .t 7],
   o1 1 (.copy 8)])
 (.seq (.seq (.rg [o1 9 (.copy 1),
   o1 10 (.data (.bin .lss) [.t 9, .c (.int .i64 (0))])])
 (.cond (.t 10)
  (.seq (.rg [o1 4 (.lit [.i .i64] [.int .i64 (-1)])])
  .ret)
  .skip))
 (.seq (.rg [o1 11 (.idx .nil),
   o1 12 (.load 2 [] 2 (.t 11) 1 false),
   o1 13 (.copy 1),
   o3 14 63 [.t 12, .t 13],
   o1 1 (.copy 14)])
 (.seq (.seq (.rg [o1 15 (.copy 1),
   o1 16 (.data (.bin .lss) [.t 15, .c (.int .i64 (0))])])
 (.cond (.t 16)
  (.seq (.rg [o1 4 (.lit [.i .i64] [.int .i64 (-1)])])
  .ret)
  .skip))
 (.seq (.rg [o1 17 (.idx .nil),
   o1 18 (.load 2 [] 3 (.t 17) 1 false),
   o1 19 (.copy 1),
   o3 20 211 [.t 18, .t 19],
   o1 1 (.copy 20)])
 (.seq (.seq (.rg [o1 21 (.copy 1),
   o1 22 (.data (.bin .lss) [.t 21, .c (.int .i64 (0))])])
 (.cond (.t 22)
  (.seq (.rg [o1 4 (.lit [.i .i64] [.int .i64 (-1)])])
  .ret)
  .skip))
 (.seq (.rg [o1 23 (.idx .nil),
   o1 24 (.load 2 [] 4 (.t 23) 1 false),
   o1 25 (.copy 1),
   o3 26 45 [.t 24, .t 25],
   o1 1 (.copy 26)])
 (.seq (.seq (.rg [o1 27 (.copy 1),
   o1 28 (.data (.bin .lss) [.t 27, .c (.int .i64 (0))])])
 (.cond (.t 28)
  (.seq (.rg [o1 4 (.lit [.i .i64] [.int .i64 (-1)])])
  .ret)
  .skip))
 (.seq (.rg [o1 29 (.idx .nil),
   o1 30 (.load 2 [] 5 (.t 29) 9 false),
   o1 31 (.copy 1),
   o3 32 212 [.t 30, .t 31],
   o1 1 (.copy 32)])
 (.seq (.seq (.rg [o1 33 (.copy 1),
   o1 34 (.data (.bin .lss) [.t 33, .c (.int .i64 (0))])])
 (.cond (.t 34)
  (.seq (.rg [o1 4 (.lit [.i .i64] [.int .i64 (-1)])])
  .ret)
  .skip))
 (.seq (.rg [o1 35 (.idx .nil),
   o1 36 (.load 2 [] 14 (.t 35) 1 false),
   o1 37 (.copy 1),
   o3 38 213 [.t 36, .t 37],
   o1 1 (.copy 38)])
 (.seq (.seq (.rg [o1 39 (.copy 1),
   o1 40 (.data (.bin .lss) [.t 39, .c (.int .i64 (0))])])
 (.cond (.t 40)
  (.seq (.rg [o1 4 (.lit [.i .i64] [.int .i64 (-1)])])
  .ret)
  .skip))
 (.seq (.rg [o1 41 (.copy 1),
   o1 4 (.copy 41)])
 .ret))))))))))))))
def s_lheldHead : Sig := ⟨[.rd true [.d, .sl (.own none) [.d], .sl (.own none) [.d, .d], .sl (.own none) [.sl (.own none) [.d]], .sl (.own none) [.d], .d, .d, .d, .d, .d, .d, .d, .sl (.own none) [.d, .d], .d, .sl (.own none) [.d, .d, .d, .d, .d, .d]], .rd false [.d]], (.one false [.d])⟩
noncomputable def E_lheldHead : TEnv := envOf [(45, p_lheldIntS), (63, p_lheldEdgeS), (211, p_lheldIntSS), (212, p_lheldTask), (213, p_lheldSaidS)]
noncomputable def f_lheldHead (n : Nat) : (Int × List (Int) × List (Int × Int) × List (List (Int)) × List (Int) × Int × Int × Int × Int × Int × Int × Int × List (Int × Int) × Int × List (Int × Int × Int × Int × Int × Int)) × Int → Option ((Int) × Unit) := runFn n E_lheldHead c_lheldHead [[.i .i64, .sl [.i .i64], .sl [.i .i64, .i .i64], .sl [.sl [.i .i64]], .sl [.i .i64], .i .i64, .i .i64, .i .i64, .i .i64, .i .i64, .i .i64, .i .i64, .sl [.i .i64, .i .i64], .i .i64, .sl [.i .i64, .i .i64, .i .i64, .i .i64, .i .i64, .i .i64]], [.i .i64]] [.i .i64] [] [4] .no
noncomputable def g_lheldHead := f_lheldHead BIG
noncomputable def p_lheldHead : TSp := ⟨s_lheldHead, [[.i .i64, .sl [.i .i64], .sl [.i .i64, .i .i64], .sl [.sl [.i .i64]], .sl [.i .i64], .i .i64, .i .i64, .i .i64, .i .i64, .i .i64, .i .i64, .i .i64, .sl [.i .i64, .i .i64], .i .i64, .sl [.i .i64, .i .i64, .i .i64, .i .i64, .i .i64, .i .i64]], [.i .i64]], [.i .i64], [], Ou.j .no, g_lheldHead⟩
theorem k_lheldHead : chkW PG E_lheldHead 82 s_lheldHead (c_lheldHead.ht 42) .no = some (c_lheldHead.wc E_lheldHead, [4]) := by kernel_rfl
theorem ok_lheldHead : p_lheldHead.Ok PG 82 := mkOk (env_cons ok_lheldIntS (env_cons ok_lheldEdgeS (env_cons ok_lheldIntSS (env_cons ok_lheldTask (env_cons ok_lheldSaidS (env_nil PG)))))) k_lheldHead (by kernel_rfl)
theorem e_lheldHead (n : Nat) (a0 : Int × List (Int) × List (Int × Int) × List ((List (Int))) × List (Int) × Int × Int × Int × Int × Int × Int × Int × List (Int × Int) × Int × List (Int × Int × Int × Int × Int × Int)) (a1 : Int) : f_lheldHead n (a0, a1) =
  Option.bind (g_lheldIntS (a0.2.1, a1)) fun r0 =>
  bif decide (r0.1 < (0 : Int)) then
   some ((-1 : Int), ())
  else Option.bind (g_lheldEdgeS (a0.2.2.1, r0.1)) fun r1 =>
  bif decide (r1.1 < (0 : Int)) then
   some ((-1 : Int), ())
  else Option.bind (g_lheldIntSS (a0.2.2.2.1, r1.1)) fun r2 =>
  bif decide (r2.1 < (0 : Int)) then
   some ((-1 : Int), ())
  else Option.bind (g_lheldIntS (a0.2.2.2.2.1, r2.1)) fun r3 =>
  bif decide (r3.1 < (0 : Int)) then
   some ((-1 : Int), ())
  else Option.bind (g_lheldTask ((a0.2.2.2.2.2.1, a0.2.2.2.2.2.2.1, a0.2.2.2.2.2.2.2.1, a0.2.2.2.2.2.2.2.2.1, a0.2.2.2.2.2.2.2.2.2.1, a0.2.2.2.2.2.2.2.2.2.2.1, a0.2.2.2.2.2.2.2.2.2.2.2.1, a0.2.2.2.2.2.2.2.2.2.2.2.2.1, a0.2.2.2.2.2.2.2.2.2.2.2.2.2.1), r3.1)) fun r4 =>
  bif decide (r4.1 < (0 : Int)) then
   some ((-1 : Int), ())
  else Option.bind (g_lheldSaidS (a0.2.2.2.2.2.2.2.2.2.2.2.2.2.2, r4.1)) fun r5 =>
  bif decide (r5.1 < (0 : Int)) then
   some ((-1 : Int), ())
  else some (r5.1, ()) := by kernel_rfl
/- laws.FnExactHeadNew -/
def c_lFnExactHeadNew : TC :=
 (.seq (.rg [o1 4 (.lit [.b] [.bool false])])
 (.seq (.rg [o1 14 (.copy 0),
   o1 15 (.copy 1),
   o3 16 78 [.t 14, .t 15],
   ⟨false, [], [], .det 2 (.copy 16), [13, 16], (some 13), none⟩,
   ⟨false, [], [], .det 2 (.ext 13 0 15), [17, 13], (some 17), none⟩,
   o1 18 (.ext 13 15 1),
   ⟨false, [], [], .det 2 (.a (.c [.i .i64, .sl [.i .i64], .sl [.i .i64, .i .i64], .sl [.sl [.i .i64]], .sl [.i .i64], .i .i64, .i .i64, .i .i64, .i .i64, .i .i64, .i .i64, .i .i64, .sl [.i .i64, .i .i64], .i .i64, .sl [.i .i64, .i .i64, .i .i64, .i .i64, .i .i64, .i .i64]] [.int .i64 (0), .slice none 0 0, .slice none 0 0, .slice none 0 0, .slice none 0 0, .int .i64 (0), .int .i64 (0), .int .i64 (0), .int .i64 (0), .int .i64 (0), .int .i64 (0), .int .i64 (0), .slice none 0 0, .int .i64 (0), .slice none 0 0])), [5, 1000000001], (some 5), none⟩,
   o4 2 [5, 17] (.store 5 [] 0 .nil (.t 17)),
   o1 6 (.copy 18)])
 (.seq (.rg [o1 20 (.copy 0),
   o1 21 (.copy 1),
   o3 22 77 [.t 20, .t 21],
   ⟨false, [], [], .det 2 (.copy 22), [19, 22], (some 19), none⟩,
   ⟨false, [], [], .det 2 (.ext 19 0 15), [23, 19], (some 23), none⟩,
   o1 24 (.ext 19 15 1),
   ⟨false, [], [], .det 2 (.a (.c [.i .i64, .sl [.i .i64], .sl [.i .i64, .i .i64], .sl [.sl [.i .i64]], .sl [.i .i64], .i .i64, .i .i64, .i .i64, .i .i64, .i .i64, .i .i64, .i .i64, .sl [.i .i64, .i .i64], .i .i64, .sl [.i .i64, .i .i64, .i .i64, .i .i64, .i .i64, .i .i64]] [.int .i64 (0), .slice none 0 0, .slice none 0 0, .slice none 0 0, .slice none 0 0, .int .i64 (0), .int .i64 (0), .int .i64 (0), .int .i64 (0), .int .i64 (0), .int .i64 (0), .int .i64 (0), .slice none 0 0, .int .i64 (0), .slice none 0 0])), [7, 1000000001], (some 7), none⟩,
   o4 2 [7, 23] (.store 7 [] 0 .nil (.t 23)),
   o1 8 (.copy 24)])
 (.seq (.seq (.join [⟨33, [.b], false⟩] 17146314752 none (.rg [o1 25 (.load 7 [] 0 .nil 15 true),
   o1 26 (.load 5 [] 0 .nil 15 true),
   o3 27 68 [.t 25, .t 26],
   o1 28 (.data .not [.t 27]),
   o1 29 (.copy 28),
   o2 30 (.copy 8) 4 false,
   o2 31 (.copy 6) 4 false,
   o2 32 (.data (.beq true) [.t 30, .t 31]) 4 false,
   ⟨false, [], [], .pick 29 (.c (.bool true)) (.t 32), [33], (some 33), none⟩]))
 (.cond (.t 33)
  (.seq (.rg [o1 4 (.lit [.b] [.bool false])])
  .ret)
  .skip))
 (.seq (.rg [o1 9 (.lit [.i .i64] [.int .i64 (1)])])
 (.seq (.rg [o1 34 (.load 7 [] 0 .nil 15 true),
   o1 35 (.copy 9),
   ⟨false, [], [], .call 2 81 [.t 34, .t 35] (.mt 7 [] 0 34 0), [36, 7, 25, 34], (some 36), none⟩,
   o1 9 (.copy 36)])
 (.seq (.rg [o1 10 (.lit [.i .i64] [.int .i64 (1)])])
 (.seq (.rg [o1 37 (.load 7 [] 0 .nil 15 true),
   o1 38 (.copy 10),
   o3 39 82 [.t 37, .t 38],
   o1 10 (.copy 39)])
 (.seq (.seq (.rg [o1 40 (.copy 10),
   o1 41 (.data (.bin .lss) [.t 40, .c (.int .i64 (0))])])
 (.cond (.t 41)
  (.seq (.rg [o1 4 (.lit [.b] [.bool false])])
  .ret)
  .skip))
 (.seq (.seq (.rg [o1 42 (.copy 10),
   o1 43 (.copy 9),
   o1 44 (.data (.bin .neq) [.t 42, .t 43])])
 (.cond (.t 44)
  (.seq (.rg [o1 4 (.lit [.b] [.bool false])])
  .ret)
  .skip))
 (.seq (.rg [o1 46 (.copy 0),
   o1 47 (.copy 1),
   o3 48 77 [.t 46, .t 47],
   ⟨false, [], [], .det 2 (.copy 48), [45, 48], (some 45), none⟩,
   ⟨false, [], [], .det 2 (.ext 45 0 15), [49, 45], (some 49), none⟩,
   o1 50 (.ext 45 15 1),
   ⟨false, [], [], .det 2 (.a (.c [.i .i64, .sl [.i .i64], .sl [.i .i64, .i .i64], .sl [.sl [.i .i64]], .sl [.i .i64], .i .i64, .i .i64, .i .i64, .i .i64, .i .i64, .i .i64, .i .i64, .sl [.i .i64, .i .i64], .i .i64, .sl [.i .i64, .i .i64, .i .i64, .i .i64, .i .i64, .i .i64]] [.int .i64 (0), .slice none 0 0, .slice none 0 0, .slice none 0 0, .slice none 0 0, .int .i64 (0), .int .i64 (0), .int .i64 (0), .int .i64 (0), .int .i64 (0), .int .i64 (0), .int .i64 (0), .slice none 0 0, .int .i64 (0), .slice none 0 0])), [11, 1000000001], (some 11), none⟩,
   o4 2 [11, 49] (.store 11 [] 0 .nil (.t 49)),
   o1 12 (.copy 50)])
 (.seq (.seq (.join [⟨59, [.b], false⟩] 1150669704793161728 none (.rg [o1 51 (.load 11 [] 0 .nil 15 true),
   o1 52 (.load 5 [] 0 .nil 15 true),
   o3 53 68 [.t 51, .t 52],
   o1 54 (.data .not [.t 53]),
   o1 55 (.copy 54),
   o2 56 (.copy 12) 4 false,
   o2 57 (.copy 6) 4 false,
   o2 58 (.data (.beq true) [.t 56, .t 57]) 4 false,
   ⟨false, [], [], .pick 55 (.c (.bool true)) (.t 58), [59], (some 59), none⟩]))
 (.cond (.t 59)
  (.seq (.rg [o1 4 (.lit [.b] [.bool false])])
  .ret)
  .skip))
 (.seq (.rg [o1 10 (.lit [.i .i64] [.int .i64 (1)])])
 (.seq (.rg [o1 60 (.load 7 [] 0 .nil 15 true),
   o1 61 (.copy 10),
   o3 62 82 [.t 60, .t 61],
   o1 10 (.copy 62)])
 (.seq (.seq (.rg [o1 63 (.copy 10),
   o1 64 (.data (.bin .lss) [.t 63, .c (.int .i64 (0))])])
 (.cond (.t 64)
  (.seq (.rg [o1 4 (.lit [.b] [.bool false])])
  .ret)
  .skip))
 (.seq (.seq (.rg [o1 65 (.copy 10),
   o1 66 (.copy 9),
   o1 67 (.data (.bin .neq) [.t 65, .t 66])])
 (.cond (.t 67)
  (.seq (.rg [o1 4 (.lit [.b] [.bool false])])
  .ret)
  .skip))
 (.seq (.rg [o1 4 (.lit [.b] [.bool true])])
 .ret)))))))))))))))))
def s_lFnExactHeadNew : Sig := ⟨[.rd false [.d], .rd false [.d]], (.one false [.d])⟩
noncomputable def E_lFnExactHeadNew : TEnv := envOf [(78, p_sHeadNew), (77, p_iHeadNew), (68, p_leqHead), (81, p_lmarkHead), (82, p_lheldHead)]
noncomputable def f_lFnExactHeadNew (n : Nat) : Int × Int → Option ((Bool) × Unit) := runFn n E_lFnExactHeadNew c_lFnExactHeadNew [[.i .i64], [.i .i64]] [.b] [] [4] .no
noncomputable def g_lFnExactHeadNew := f_lFnExactHeadNew BIG
noncomputable def p_lFnExactHeadNew : TSp := ⟨s_lFnExactHeadNew, [[.i .i64], [.i .i64]], [.b], [], Ou.j .no, g_lFnExactHeadNew⟩
theorem k_lFnExactHeadNew : chkW PG E_lFnExactHeadNew 13 s_lFnExactHeadNew (c_lFnExactHeadNew.ht 68) .no = some (c_lFnExactHeadNew.wc E_lFnExactHeadNew, [4]) := by kernel_rfl
theorem ok_lFnExactHeadNew : p_lFnExactHeadNew.Ok PG 13 := mkOk (env_cons ok_sHeadNew (env_cons ok_iHeadNew (env_cons ok_leqHead (env_cons ok_lmarkHead (env_cons ok_lheldHead (env_nil PG)))))) k_lFnExactHeadNew (by kernel_rfl)
theorem e_lFnExactHeadNew (n : Nat) (a0 : Int) (a1 : Int) : f_lFnExactHeadNew n (a0, a1) =
  Option.bind (g_sHeadNew (a0, a1)) fun r0 =>
  Option.bind (g_iHeadNew (a0, a1)) fun r1 =>
  Option.bind (Option.bind (g_leqHead ((r1.1.1, r1.1.2.1, r1.1.2.2.1, r1.1.2.2.2.1, r1.1.2.2.2.2.1, r1.1.2.2.2.2.2.1, r1.1.2.2.2.2.2.2.1, r1.1.2.2.2.2.2.2.2.1, r1.1.2.2.2.2.2.2.2.2.1, r1.1.2.2.2.2.2.2.2.2.2.1, r1.1.2.2.2.2.2.2.2.2.2.2.1, r1.1.2.2.2.2.2.2.2.2.2.2.2.1, r1.1.2.2.2.2.2.2.2.2.2.2.2.2.1, r1.1.2.2.2.2.2.2.2.2.2.2.2.2.2.1, r1.1.2.2.2.2.2.2.2.2.2.2.2.2.2.2.1), (r0.1.1, r0.1.2.1, r0.1.2.2.1, r0.1.2.2.2.1, r0.1.2.2.2.2.1, r0.1.2.2.2.2.2.1, r0.1.2.2.2.2.2.2.1, r0.1.2.2.2.2.2.2.2.1, r0.1.2.2.2.2.2.2.2.2.1, r0.1.2.2.2.2.2.2.2.2.2.1, r0.1.2.2.2.2.2.2.2.2.2.2.1, r0.1.2.2.2.2.2.2.2.2.2.2.2.1, r0.1.2.2.2.2.2.2.2.2.2.2.2.2.1, r0.1.2.2.2.2.2.2.2.2.2.2.2.2.2.1, r0.1.2.2.2.2.2.2.2.2.2.2.2.2.2.2.1))) fun r2 =>
   bif !r2.1 then
    some true
   else some (!(r1.1.2.2.2.2.2.2.2.2.2.2.2.2.2.2.2 == r0.1.2.2.2.2.2.2.2.2.2.2.2.2.2.2.2)) : Option (Bool)) fun x3 =>
  bif x3 then
   some (false, ())
  else Option.bind (g_lmarkHead ((r1.1.1, r1.1.2.1, r1.1.2.2.1, r1.1.2.2.2.1, r1.1.2.2.2.2.1, r1.1.2.2.2.2.2.1, r1.1.2.2.2.2.2.2.1, r1.1.2.2.2.2.2.2.2.1, r1.1.2.2.2.2.2.2.2.2.1, r1.1.2.2.2.2.2.2.2.2.2.1, r1.1.2.2.2.2.2.2.2.2.2.2.1, r1.1.2.2.2.2.2.2.2.2.2.2.2.1, r1.1.2.2.2.2.2.2.2.2.2.2.2.2.1, r1.1.2.2.2.2.2.2.2.2.2.2.2.2.2.1, r1.1.2.2.2.2.2.2.2.2.2.2.2.2.2.2.1), (1 : Int))) fun r4 =>
  Option.bind (g_lheldHead (r4.2, (1 : Int))) fun r5 =>
  bif decide (r5.1 < (0 : Int)) then
   some (false, ())
  else bif !decide (r5.1 = r4.1) then
   some (false, ())
  else Option.bind (g_iHeadNew (a0, a1)) fun r6 =>
  Option.bind (Option.bind (g_leqHead ((r6.1.1, r6.1.2.1, r6.1.2.2.1, r6.1.2.2.2.1, r6.1.2.2.2.2.1, r6.1.2.2.2.2.2.1, r6.1.2.2.2.2.2.2.1, r6.1.2.2.2.2.2.2.2.1, r6.1.2.2.2.2.2.2.2.2.1, r6.1.2.2.2.2.2.2.2.2.2.1, r6.1.2.2.2.2.2.2.2.2.2.2.1, r6.1.2.2.2.2.2.2.2.2.2.2.2.1, r6.1.2.2.2.2.2.2.2.2.2.2.2.2.1, r6.1.2.2.2.2.2.2.2.2.2.2.2.2.2.1, r6.1.2.2.2.2.2.2.2.2.2.2.2.2.2.2.1), (r0.1.1, r0.1.2.1, r0.1.2.2.1, r0.1.2.2.2.1, r0.1.2.2.2.2.1, r0.1.2.2.2.2.2.1, r0.1.2.2.2.2.2.2.1, r0.1.2.2.2.2.2.2.2.1, r0.1.2.2.2.2.2.2.2.2.1, r0.1.2.2.2.2.2.2.2.2.2.1, r0.1.2.2.2.2.2.2.2.2.2.2.1, r0.1.2.2.2.2.2.2.2.2.2.2.2.1, r0.1.2.2.2.2.2.2.2.2.2.2.2.2.1, r0.1.2.2.2.2.2.2.2.2.2.2.2.2.2.1, r0.1.2.2.2.2.2.2.2.2.2.2.2.2.2.2.1))) fun r7 =>
   bif !r7.1 then
    some true
   else some (!(r6.1.2.2.2.2.2.2.2.2.2.2.2.2.2.2.2 == r0.1.2.2.2.2.2.2.2.2.2.2.2.2.2.2.2)) : Option (Bool)) fun x8 =>
  bif x8 then
   some (false, ())
  else Option.bind (g_lheldHead (r4.2, (1 : Int))) fun r9 =>
  bif decide (r9.1 < (0 : Int)) then
   some (false, ())
  else bif !decide (r9.1 = r4.1) then
   some (false, ())
  else some (true, ()) := by kernel_rfl
end Go.Fw
