/- The given functions, as what they compute; each is shown to be what the code does. No conditions. -/
import Derived.Test.YtojipknoidbbgaaGreatX0
set_option linter.unusedVariables false
set_option linter.unusedSimpArgs false
namespace Go.Fw
def c_sWholeEdges : TC :=
 (.seq (.rg [o1 4 (.lit [.sl [.i .i64, .i .i64]] [.slice none 0 0]),
   o1 5 (.lit [.b] [.bool false])])
 (.seq (.rg [o1 10 (.sli [.i .i64, .i .i64] []),
   ⟨false, [], [], .det 2 (.copy 10), [6, 10], (some 6), none⟩])
 (.seq (.rg [o1 11 (.sli [.i .i64, .i .i64] []),
   o1 12 (.copy 1),
   ⟨false, [], [], .det 2 (.app (some 11) 12), [13, 11], (some 13), none⟩,
   ⟨false, [], [], .det 2 (.copy 13), [7, 13], (some 7), none⟩])
 (.seq (.join [⟨7, [.sl [.i .i64, .i .i64]], false⟩] 67092864 none (.seq (.rg [o1 8 (.lit [.i .i64] [.int .i64 (0)])])
 (.block 0 (.loop [⟨7, [.sl [.i .i64, .i .i64]], false⟩, ⟨8, [.i .i64], false⟩] 67092864
  (.seq (.seq (.rg [o1 14 (.copy 8),
    o1 15 (.copy 0),
    o1 16 (.len 15),
    o1 17 (.data (.bin .lss) [.t 14, .t 16])])
  (.cond (.t 17)
   .skip
   (.exit 0)))
  (.seq (.block 1 (.rg [⟨false, [], [], .det 2 (.copy 7), [20, 7], (some 20), none⟩,
    o1 21 (.copy 0),
    o1 22 (.copy 8),
    o1 23 (.index 21 (.t 22)),
    o1 24 (.load 21 [(0, 1)] 0 (.t 23) 1 false),
    ⟨false, [], [], .det 2 (.app (some 20) 24), [25, 20], (some 25), none⟩,
    ⟨false, [], [], .det 2 (.copy 25), [7, 25], (some 7), none⟩]))
  (.rg [o1 18 (.copy 8),
    o1 19 (.data (.bin .add) [.t 18, .c (.int .i64 (1))]),
    o1 8 (.copy 19)])))))))
 (.seq (.join [⟨6, [.sl [.i .i64, .i .i64]], false⟩] 35184304980592 (some [⟨4, [.sl [.i .i64, .i .i64]], false⟩, ⟨5, [.b], false⟩]) (.seq (.rg [o1 9 (.lit [.i .i64] [.int .i64 (0)])])
 (.block 2 (.loop [⟨6, [.sl [.i .i64, .i .i64]], false⟩, ⟨9, [.i .i64], false⟩] 35184304980592
  (.seq (.seq (.rg [o1 26 (.copy 9),
    ⟨true, [], [], .det 1 (.copy 7), [27], (some 27), none⟩,
    o1 28 (.len 27),
    o1 29 (.data (.bin .lss) [.t 26, .t 28])])
  (.cond (.t 29)
   .skip
   (.exit 2)))
  (.seq (.block 3 (.seq (.seq (.rg [⟨true, [], [], .det 1 (.copy 6), [32], (some 32), none⟩,
    ⟨true, [], [], .det 1 (.copy 7), [33], (some 33), none⟩,
    o1 34 (.copy 9),
    o1 35 (.index 33 (.t 34)),
    o1 36 (.load 7 [(0, 2)] 0 (.t 35) 2 false),
    o3 37 124 [.t 32, .t 36]])
  (.cond (.t 37)
   (.seq (.rg [o1 38 (.sli [.i .i64, .i .i64] []),
     ⟨false, [], [], .det 2 (.copy 38), [4, 38], (some 4), none⟩,
     o1 5 (.lit [.b] [.bool false])])
   .ret)
   .skip))
  (.rg [⟨false, [], [], .det 2 (.copy 6), [39, 6, 32], (some 39), none⟩,
    ⟨true, [], [], .det 1 (.copy 7), [40], (some 40), none⟩,
    o1 41 (.copy 9),
    o1 42 (.index 40 (.t 41)),
    o1 43 (.load 7 [(0, 2)] 0 (.t 42) 2 false),
    o3 44 125 [.t 39, .t 43],
    ⟨false, [], [], .det 2 (.copy 44), [6, 44, 32], (some 6), none⟩])))
  (.rg [o1 30 (.copy 9),
    o1 31 (.data (.bin .add) [.t 30, .c (.int .i64 (1))]),
    o1 9 (.copy 31)])))))))
 (.seq (.rg [⟨false, [], [], .det 2 (.copy 6), [45, 6], (some 45), none⟩,
   ⟨false, [], [], .det 2 (.copy 45), [4, 45], (some 4), none⟩,
   o1 5 (.lit [.b] [.bool true])])
 .ret))))))
def s_sWholeEdges : Sig := ⟨[.rd false [.sl (.own none) [.sl (.own none) [.d, .d]]], .rd false [.sl (.own none) [.d, .d]]], (.tup [(false, 1), (false, 1)] [.sl (.own none) [.d, .d], .d])⟩
noncomputable def E_sWholeEdges : TEnv := envOf [(124, p_sl05Has), (125, p_sl05Put)]
noncomputable def f_sWholeEdges (n : Nat) : (List (List (Int × Int))) × (List (Int × Int)) → Option ((List (Int × Int) × Bool) × Unit) := runFn n E_sWholeEdges c_sWholeEdges [[.sl [.sl [.i .i64, .i .i64]]], [.sl [.i .i64, .i .i64]]] [.sl [.i .i64, .i .i64], .b] [] [4, 5] .no
noncomputable def g_sWholeEdges := f_sWholeEdges BIG
noncomputable def p_sWholeEdges : TSp := ⟨s_sWholeEdges, [[.sl [.sl [.i .i64, .i .i64]]], [.sl [.i .i64, .i .i64]]], [.sl [.i .i64, .i .i64], .b], [], Ou.j .no, g_sWholeEdges⟩
theorem k_sWholeEdges : chkW PG E_sWholeEdges 57 s_sWholeEdges (c_sWholeEdges.ht 46) .no = some (c_sWholeEdges.wc E_sWholeEdges, [4, 5]) := by kernel_rfl
theorem ok_sWholeEdges : p_sWholeEdges.Ok PG 57 := mkOk (env_cons ok_sl05Has (env_cons ok_sl05Put (env_nil PG))) k_sWholeEdges (by kernel_rfl)
theorem e_sWholeEdges (n : Nat) (a0 : List ((List (Int × Int)))) (a1 : List (Int × Int)) : f_sWholeEdges n (a0, a1) =
  bif decide (0 + a1.length ≤ 4294967296) then
   Option.bind (loopT n (X := (List (Int × Int)) × Int) (B := (List (Int × Int))) (fun self1 x0 =>
     bif decide (x0.2 < (a0.length : Int)) then
      bnd a0.length x0.2 fun n2 =>
      Option.bind a0[n2]? fun y3 =>
      bif decide (x0.1.length + y3.length ≤ 4294967296) then
       self1 (x0.1 ++ y3, IntKind.wrap .i64 (x0.2 + (1 : Int)))
      else none
     else some x0.1) ([] ++ a1, (0 : Int)) : Option ((List (Int × Int)))) fun x4 =>
   Option.bind (loopT n (X := (List (Int × Int)) × Int) (B := ((List (Int × Int))) ⊕ ((List (Int × Int)) × Bool)) (fun self6 x5 =>
     bif decide (x5.2 < (x4.length : Int)) then
      bnd x4.length x5.2 fun n7 =>
      Option.bind x4[n7]? fun y8 =>
      Option.bind (g_sl05Has (x5.1, y8)) fun r9 =>
      bif r9.1 then
       some (Sum.inr ([], false))
      else bnd x4.length x5.2 fun n10 =>
      Option.bind x4[n10]? fun y11 =>
      Option.bind (g_sl05Put (x5.1, y11)) fun r12 =>
      self6 (r12.1, IntKind.wrap .i64 (x5.2 + (1 : Int)))
     else some (Sum.inl x5.1)) ([], (0 : Int)) : Option (((List (Int × Int))) ⊕ ((List (Int × Int)) × Bool))) fun y => match y with
   | .inl x13 =>
    some ((x13, true), ())
   | .inr x13 =>
    some (x13, ())
  else none := by kernel_rfl
def c_sWholeLabels : TC :=
 (.seq (.rg [o1 6 (.lit [.sl [.i .i64]] [.slice none 0 0]),
   o1 7 (.lit [.b] [.bool false])])
 (.seq (.rg [o1 12 (.sli [.i .i64, .i .i64] []),
   ⟨false, [], [], .det 2 (.copy 12), [8, 12], (some 8), none⟩])
 (.seq (.seq (.join [⟨25, [.b], false⟩] 67100672 none (.rg [o1 13 (.copy 0),
   o3 14 89 [.t 13, .c [.i .i64] [.int .i64 (1)], .c [.i .i64] [.int .i64 (12)]],
   o1 15 (.data .not [.t 14]),
   o1 16 (.copy 15),
   o2 17 (.copy 1) 3 false,
   o2 18 (.len 17) 3 false,
   o2 19 (.data (.bin .gtr) [.t 18, .c (.int .i64 (3))]) 3 false,
   ⟨false, [], [], .pick 16 (.c (.bool true)) (.t 19), [20], (some 20), none⟩,
   o1 21 (.copy 20),
   o2 22 (.copy 2) 8 false,
   o2 23 (.len 22) 8 false,
   o2 24 (.data (.bin .gtr) [.t 23, .c (.int .i64 (1000))]) 8 false,
   ⟨false, [], [], .pick 21 (.c (.bool true)) (.t 24), [25], (some 25), none⟩]))
 (.cond (.t 25)
  (.seq (.rg [o1 26 (.sli [.i .i64] []),
    ⟨false, [], [], .det 2 (.copy 26), [6, 26], (some 6), none⟩,
    o1 7 (.lit [.b] [.bool false])])
  .ret)
  .skip))
 (.seq (.join [⟨8, [.sl [.i .i64, .i .i64]], false⟩] 302231454903657159460800 (some [⟨6, [.sl [.i .i64]], false⟩, ⟨7, [.b], false⟩]) (.seq (.rg [o1 9 (.lit [.i .i64] [.int .i64 (0)])])
 (.block 0 (.loop [⟨8, [.sl [.i .i64, .i .i64]], false⟩, ⟨9, [.i .i64], false⟩] 302231454903657159460800
  (.seq (.seq (.rg [o1 27 (.copy 9),
    o1 28 (.copy 1),
    o1 29 (.len 28),
    o1 30 (.data (.bin .lss) [.t 27, .t 29])])
  (.cond (.t 30)
   .skip
   (.exit 0)))
  (.seq (.join [⟨8, [.sl [.i .i64, .i .i64]], false⟩] 302231454903648703743424 (some [⟨6, [.sl [.i .i64]], false⟩, ⟨7, [.b], false⟩]) (.block 1 (.seq (.seq (.rg [o1 33 (.copy 1),
    o1 34 (.copy 9),
    o1 35 (.index 33 (.t 34)),
    o1 36 (.load 33 [(0, 1)] 0 (.t 35) 1 false),
    o1 37 (.len 36),
    o1 38 (.copy 0),
    o1 39 (.data (.bin .neq) [.t 37, .t 38])])
  (.cond (.t 39)
   (.seq (.rg [o1 40 (.sli [.i .i64] []),
     ⟨false, [], [], .det 2 (.copy 40), [6, 40], (some 6), none⟩,
     o1 7 (.lit [.b] [.bool false])])
   .ret)
   .skip))
  (.seq (.rg [o1 10 (.lit [.i .i64] [.int .i64 (0)])])
  (.block 2 (.loop [⟨8, [.sl [.i .i64, .i .i64]], false⟩, ⟨10, [.i .i64], false⟩] 302231454901458270422464
   (.seq (.seq (.rg [o1 41 (.copy 10),
     o1 42 (.copy 0),
     o1 43 (.data (.bin .lss) [.t 41, .t 42])])
   (.cond (.t 43)
    .skip
    (.exit 2)))
   (.seq (.join [⟨8, [.sl [.i .i64, .i .i64]], false⟩] 302231454833288549499328 (some [⟨6, [.sl [.i .i64]], false⟩, ⟨7, [.b], false⟩]) (.block 3 (.seq (.seq (.rg [o1 46 (.copy 1),
     o1 47 (.copy 9),
     o1 48 (.index 46 (.t 47)),
     o1 49 (.load 46 [(0, 1)] 0 (.t 48) 1 false),
     o1 50 (.copy 10),
     o1 51 (.index 49 (.t 50)),
     o1 52 (.load 49 [(0, 1)] 0 (.t 51) 1 false),
     o1 53 (.copy 10),
     o3 54 89 [.t 52, .c [.i .i64] [.int .i64 (0)], .t 53],
     o1 55 (.data .not [.t 54])])
   (.cond (.t 55)
    (.seq (.rg [o1 56 (.sli [.i .i64] []),
      ⟨false, [], [], .det 2 (.copy 56), [6, 56], (some 6), none⟩,
      o1 7 (.lit [.b] [.bool false])])
    .ret)
    .skip))
   (.seq (.rg [o1 57 (.copy 1),
     o1 58 (.copy 9),
     o1 59 (.index 57 (.t 58)),
     o1 60 (.load 57 [(0, 1)] 0 (.t 59) 1 false),
     o1 61 (.copy 10),
     o1 62 (.index 60 (.t 61)),
     o1 63 (.load 60 [(0, 1)] 0 (.t 62) 1 false),
     o1 64 (.copy 10),
     o1 65 (.data (.bin .lss) [.t 63, .t 64])])
   (.cond (.t 65)
    (.rg [⟨false, [], [], .det 2 (.copy 8), [66, 8], (some 66), none⟩,
      o1 67 (.copy 1),
      o1 68 (.copy 9),
      o1 69 (.index 67 (.t 68)),
      o1 70 (.load 67 [(0, 1)] 0 (.t 69) 1 false),
      o1 71 (.copy 10),
      o1 72 (.index 70 (.t 71)),
      o1 73 (.load 70 [(0, 1)] 0 (.t 72) 1 false),
      o1 74 (.copy 10),
      o1 75 (.build [.i .i64, .i .i64] [(0, .t 73), (1, .t 74)]),
      o1 76 (.sli [.i .i64, .i .i64] [.t 75]),
      ⟨false, [], [], .det 2 (.app (some 66) 76), [77, 66], (some 77), none⟩,
      ⟨false, [], [], .det 2 (.copy 77), [8, 77], (some 8), none⟩])
    .skip)))))
   (.rg [o1 44 (.copy 10),
     o1 45 (.data (.bin .add) [.t 44, .c (.int .i64 (1))]),
     o1 10 (.copy 45)])))))))))
  (.rg [o1 31 (.copy 9),
    o1 32 (.data (.bin .add) [.t 31, .c (.int .i64 (1))]),
    o1 9 (.copy 32)])))))))
 (.seq (.join [⟨8, [.sl [.i .i64, .i .i64]], false⟩] 633824997882659797091057928640 (some [⟨6, [.sl [.i .i64]], false⟩, ⟨7, [.b], false⟩]) (.seq (.rg [o1 11 (.lit [.i .i64] [.int .i64 (0)])])
 (.block 4 (.loop [⟨8, [.sl [.i .i64, .i .i64]], false⟩, ⟨11, [.i .i64], false⟩] 633824997882659797091057928640
  (.seq (.seq (.rg [o1 78 (.copy 11),
    o1 79 (.copy 2),
    o1 80 (.len 79),
    o1 81 (.data (.bin .lss) [.t 78, .t 80])])
  (.cond (.t 81)
   .skip
   (.exit 4)))
  (.seq (.block 5 (.seq (.seq (.rg [o1 84 (.copy 0),
    o1 85 (.copy 2),
    o1 86 (.copy 11),
    o1 87 (.index 85 (.t 86)),
    o1 88 (.load 85 [(0, 2)] 0 (.t 87) 2 false),
    o3 89 126 [.t 84, .t 88],
    o1 90 (.data .not [.t 89])])
  (.cond (.t 90)
   (.seq (.rg [o1 91 (.sli [.i .i64] []),
     ⟨false, [], [], .det 2 (.copy 91), [6, 91], (some 6), none⟩,
     o1 7 (.lit [.b] [.bool false])])
   .ret)
   .skip))
  (.rg [⟨false, [], [], .det 2 (.copy 8), [92, 8], (some 92), none⟩,
    o1 93 (.copy 2),
    o1 94 (.copy 11),
    o1 95 (.index 93 (.t 94)),
    o1 96 (.load 93 [(0, 2)] 0 (.t 95) 2 false),
    o1 97 (.sli [.i .i64, .i .i64] [.t 96]),
    ⟨false, [], [], .det 2 (.app (some 92) 97), [98, 92], (some 98), none⟩,
    ⟨false, [], [], .det 2 (.copy 98), [8, 98], (some 8), none⟩])))
  (.rg [o1 82 (.copy 11),
    o1 83 (.data (.bin .add) [.t 82, .c (.int .i64 (1))]),
    o1 11 (.copy 83)])))))))
 (.seq (.rg [o1 99 (.copy 0),
   ⟨false, [], [], .det 2 (.copy 8), [100, 8], (some 100), none⟩,
   o3 101 90 [.t 99, .t 100],
   ⟨false, [], [], .det 2 (.copy 101), [6, 101], (some 6), none⟩,
   o1 7 (.lit [.b] [.bool true])])
 .ret))))))
def s_sWholeLabels : Sig := ⟨[.rd false [.d], .rd false [.sl (.own none) [.sl (.own none) [.d]]], .rd false [.sl (.own none) [.d, .d]]], (.tup [(false, 1), (false, 1)] [.sl (.own none) [.d], .d])⟩
noncomputable def E_sWholeLabels : TEnv := envOf [(89, p_sl01In), (126, p_sEdgeOk), (90, p_sl05Labels)]
noncomputable def f_sWholeLabels (n : Nat) : Int × List (List (Int)) × (List (Int × Int)) → Option ((List (Int) × Bool) × Unit) := runFn n E_sWholeLabels c_sWholeLabels [[.i .i64], [.sl [.sl [.i .i64]]], [.sl [.i .i64, .i .i64]]] [.sl [.i .i64], .b] [] [6, 7] .no
noncomputable def g_sWholeLabels := f_sWholeLabels BIG
noncomputable def p_sWholeLabels : TSp := ⟨s_sWholeLabels, [[.i .i64], [.sl [.sl [.i .i64]]], [.sl [.i .i64, .i .i64]]], [.sl [.i .i64], .b], [], Ou.j .no, g_sWholeLabels⟩
theorem k_sWholeLabels : chkW PG E_sWholeLabels 58 s_sWholeLabels (c_sWholeLabels.ht 102) .no = some (c_sWholeLabels.wc E_sWholeLabels, [6, 7]) := by kernel_rfl
theorem ok_sWholeLabels : p_sWholeLabels.Ok PG 58 := mkOk (env_cons ok_sl01In (env_cons ok_sEdgeOk (env_cons ok_sl05Labels (env_nil PG)))) k_sWholeLabels (by kernel_rfl)
theorem e_sWholeLabels (n : Nat) (a0 : Int) (a1 : List ((List (Int)))) (a2 : List (Int × Int)) : f_sWholeLabels n (a0, a1, a2) =
  Option.bind (Option.bind (g_sl01In (a0, (1 : Int), (12 : Int))) fun r0 =>
   bif !r0.1 then
    some true
   else bif decide ((3 : Int) < (a1.length : Int)) then
    some true
   else some (decide ((1000 : Int) < (a2.length : Int))) : Option (Bool)) fun x1 =>
  bif x1 then
   some (([], false), ())
  else Option.bind (loopT n (X := (List (Int × Int)) × Int) (B := ((List (Int × Int))) ⊕ ((List (Int)) × Bool)) (fun self3 x2 =>
    bif decide (x2.2 < (a1.length : Int)) then
     Option.bind (bnd a1.length x2.2 fun n4 =>
      Option.bind a1[n4]? fun y5 =>
      bif !decide ((y5.length : Int) = a0) then
       some (Sum.inr ([], false))
      else loopT n (X := (List (Int × Int)) × Int) (B := ((List (Int × Int))) ⊕ ((List (Int)) × Bool)) (fun self7 x6 =>
       bif decide (x6.2 < a0) then
        Option.bind (bnd a1.length x2.2 fun n8 =>
         Option.bind a1[n8]? fun y9 =>
         bnd y9.length x6.2 fun n10 =>
         Option.bind y9[n10]? fun y11 =>
         Option.bind (g_sl01In (y11, (0 : Int), x6.2)) fun r12 =>
         bif !r12.1 then
          some (Sum.inr ([], false))
         else bnd a1.length x2.2 fun n13 =>
         Option.bind a1[n13]? fun y14 =>
         bnd y14.length x6.2 fun n15 =>
         Option.bind y14[n15]? fun y16 =>
         bif decide (y16 < x6.2) then
          bnd a1.length x2.2 fun n17 =>
          Option.bind a1[n17]? fun y18 =>
          bnd y18.length x6.2 fun n19 =>
          Option.bind y18[n19]? fun y20 =>
          bif decide (x6.1.length + ([(y20, x6.2)]).length ≤ 4294967296) then
           some (Sum.inl (x6.1 ++ ([(y20, x6.2)])))
          else none
         else some (Sum.inl x6.1) : Option (((List (Int × Int))) ⊕ ((List (Int)) × Bool))) fun y => match y with
        | .inl x21 =>
         self7 (x21, IntKind.wrap .i64 (x6.2 + (1 : Int)))
        | .inr x21 =>
         some (Sum.inr (x21.1, x21.2))
       else some (Sum.inl x6.1)) (x2.1, (0 : Int)) : Option (((List (Int × Int))) ⊕ ((List (Int)) × Bool))) fun y => match y with
     | .inl x22 =>
      self3 (x22, IntKind.wrap .i64 (x2.2 + (1 : Int)))
     | .inr x22 =>
      some (Sum.inr (x22.1, x22.2))
    else some (Sum.inl x2.1)) ([], (0 : Int)) : Option (((List (Int × Int))) ⊕ ((List (Int)) × Bool))) fun y => match y with
  | .inl x23 =>
   Option.bind (loopT n (X := (List (Int × Int)) × Int) (B := ((List (Int × Int))) ⊕ ((List (Int)) × Bool)) (fun self25 x24 =>
     bif decide (x24.2 < (a2.length : Int)) then
      bnd a2.length x24.2 fun n26 =>
      Option.bind a2[n26]? fun y27 =>
      Option.bind (g_sEdgeOk (a0, y27)) fun r28 =>
      bif !r28.1 then
       some (Sum.inr ([], false))
      else bnd a2.length x24.2 fun n29 =>
      Option.bind a2[n29]? fun y30 =>
      bif decide (x24.1.length + [y30].length ≤ 4294967296) then
       self25 (x24.1 ++ [y30], IntKind.wrap .i64 (x24.2 + (1 : Int)))
      else none
     else some (Sum.inl x24.1)) (x23, (0 : Int)) : Option (((List (Int × Int))) ⊕ ((List (Int)) × Bool))) fun y => match y with
   | .inl x31 =>
    Option.bind (g_sl05Labels (a0, x31)) fun r32 =>
    some ((r32.1, true), ())
   | .inr x31 =>
    some (x31, ())
  | .inr x23 =>
   some (x23, ()) := by kernel_rfl
def c_sl05SameEdges : TC :=
 (.seq (.rg [o1 4 (.lit [.b] [.bool false])])
 (.seq (.seq (.rg [o1 6 (.copy 0),
   o1 7 (.len 6),
   o1 8 (.copy 1),
   o1 9 (.len 8),
   o1 10 (.data (.bin .neq) [.t 7, .t 9])])
 (.cond (.t 10)
  (.seq (.rg [o1 4 (.lit [.b] [.bool false])])
  .ret)
  .skip))
 (.seq (.join [] 67106864 (some [⟨4, [.b], false⟩]) (.seq (.rg [o1 5 (.lit [.i .i64] [.int .i64 (0)])])
 (.block 0 (.loop [⟨5, [.i .i64], false⟩] 67106864
  (.seq (.seq (.rg [o1 11 (.copy 5),
    o1 12 (.copy 0),
    o1 13 (.len 12),
    o1 14 (.data (.bin .lss) [.t 11, .t 13])])
  (.cond (.t 14)
   .skip
   (.exit 0)))
  (.seq (.block 1 (.seq (.rg [o1 17 (.copy 0),
    o1 18 (.copy 5),
    o1 19 (.index 17 (.t 18)),
    o1 20 (.load 17 [(0, 2)] 0 (.t 19) 2 false),
    o1 21 (.copy 1),
    o1 22 (.copy 5),
    o1 23 (.index 21 (.t 22)),
    o1 24 (.load 21 [(0, 2)] 0 (.t 23) 2 false),
    o1 25 (.eqA [.i, .i] (.t 20) (.t 24) true)])
  (.cond (.t 25)
   (.seq (.rg [o1 4 (.lit [.b] [.bool false])])
   .ret)
   .skip)))
  (.rg [o1 15 (.copy 5),
    o1 16 (.data (.bin .add) [.t 15, .c (.int .i64 (1))]),
    o1 5 (.copy 16)])))))))
 (.seq (.rg [o1 4 (.lit [.b] [.bool true])])
 .ret))))
def s_sl05SameEdges : Sig := ⟨[.rd false [.sl (.own none) [.d, .d]], .rd false [.sl (.own none) [.d, .d]]], (.one false [.d])⟩
noncomputable def E_sl05SameEdges : TEnv := envOf []
noncomputable def f_sl05SameEdges (n : Nat) : (List (Int × Int)) × (List (Int × Int)) → Option ((Bool) × Unit) := runFn n E_sl05SameEdges c_sl05SameEdges [[.sl [.i .i64, .i .i64]], [.sl [.i .i64, .i .i64]]] [.b] [] [4] .no
noncomputable def g_sl05SameEdges := f_sl05SameEdges BIG
noncomputable def p_sl05SameEdges : TSp := ⟨s_sl05SameEdges, [[.sl [.i .i64, .i .i64]], [.sl [.i .i64, .i .i64]]], [.b], [], Ou.j .no, g_sl05SameEdges⟩
theorem k_sl05SameEdges : chkW PG E_sl05SameEdges 59 s_sl05SameEdges (c_sl05SameEdges.ht 26) .no = some (c_sl05SameEdges.wc E_sl05SameEdges, [4]) := by kernel_rfl
theorem ok_sl05SameEdges : p_sl05SameEdges.Ok PG 59 := mkOk (env_nil PG) k_sl05SameEdges (by kernel_rfl)
theorem e_sl05SameEdges (n : Nat) (a0 : List (Int × Int)) (a1 : List (Int × Int)) : f_sl05SameEdges n (a0, a1) =
  bif !decide ((a0.length : Int) = (a1.length : Int)) then
   some (false, ())
  else Option.bind (loopT n (X := Int) (B := (Unit) ⊕ (Bool)) (fun self1 x0 =>
    bif decide (x0 < (a0.length : Int)) then
     bnd a0.length x0 fun n2 =>
     Option.bind a0[n2]? fun y3 =>
     bnd a1.length x0 fun n4 =>
     Option.bind a1[n4]? fun y5 =>
     bif !(decide (y3.1 = y5.1) && (decide (y3.2 = y5.2) && true)) then
      some (Sum.inr false)
     else self1 (IntKind.wrap .i64 (x0 + (1 : Int)))
    else some (Sum.inl ())) (0 : Int) : Option ((Unit) ⊕ (Bool))) fun y => match y with
  | .inl x6 =>
   some (true, ())
  | .inr x6 =>
   some (x6, ()) := by kernel_rfl
def c_sl05SameInts : TC :=
 (.seq (.rg [o1 4 (.lit [.b] [.bool false])])
 (.seq (.seq (.rg [o1 6 (.copy 0),
   o1 7 (.len 6),
   o1 8 (.copy 1),
   o1 9 (.len 8),
   o1 10 (.data (.bin .neq) [.t 7, .t 9])])
 (.cond (.t 10)
  (.seq (.rg [o1 4 (.lit [.b] [.bool false])])
  .ret)
  .skip))
 (.seq (.join [] 67106864 (some [⟨4, [.b], false⟩]) (.seq (.rg [o1 5 (.lit [.i .i64] [.int .i64 (0)])])
 (.block 0 (.loop [⟨5, [.i .i64], false⟩] 67106864
  (.seq (.seq (.rg [o1 11 (.copy 5),
    o1 12 (.copy 0),
    o1 13 (.len 12),
    o1 14 (.data (.bin .lss) [.t 11, .t 13])])
  (.cond (.t 14)
   .skip
   (.exit 0)))
  (.seq (.block 1 (.seq (.rg [o1 17 (.copy 0),
    o1 18 (.copy 5),
    o1 19 (.index 17 (.t 18)),
    o1 20 (.load 17 [(0, 1)] 0 (.t 19) 1 false),
    o1 21 (.copy 1),
    o1 22 (.copy 5),
    o1 23 (.index 21 (.t 22)),
    o1 24 (.load 21 [(0, 1)] 0 (.t 23) 1 false),
    o1 25 (.data (.bin .neq) [.t 20, .t 24])])
  (.cond (.t 25)
   (.seq (.rg [o1 4 (.lit [.b] [.bool false])])
   .ret)
   .skip)))
  (.rg [o1 15 (.copy 5),
    o1 16 (.data (.bin .add) [.t 15, .c (.int .i64 (1))]),
    o1 5 (.copy 16)])))))))
 (.seq (.rg [o1 4 (.lit [.b] [.bool true])])
 .ret))))
def s_sl05SameInts : Sig := ⟨[.rd false [.sl (.own none) [.d]], .rd false [.sl (.own none) [.d]]], (.one false [.d])⟩
noncomputable def E_sl05SameInts : TEnv := envOf []
noncomputable def f_sl05SameInts (n : Nat) : List (Int) × List (Int) → Option ((Bool) × Unit) := runFn n E_sl05SameInts c_sl05SameInts [[.sl [.i .i64]], [.sl [.i .i64]]] [.b] [] [4] .no
noncomputable def g_sl05SameInts := f_sl05SameInts BIG
noncomputable def p_sl05SameInts : TSp := ⟨s_sl05SameInts, [[.sl [.i .i64]], [.sl [.i .i64]]], [.b], [], Ou.j .no, g_sl05SameInts⟩
theorem k_sl05SameInts : chkW PG E_sl05SameInts 60 s_sl05SameInts (c_sl05SameInts.ht 26) .no = some (c_sl05SameInts.wc E_sl05SameInts, [4]) := by kernel_rfl
theorem ok_sl05SameInts : p_sl05SameInts.Ok PG 60 := mkOk (env_nil PG) k_sl05SameInts (by kernel_rfl)
theorem e_sl05SameInts (n : Nat) (a0 : List (Int)) (a1 : List (Int)) : f_sl05SameInts n (a0, a1) =
  bif !decide ((a0.length : Int) = (a1.length : Int)) then
   some (false, ())
  else Option.bind (loopT n (X := Int) (B := (Unit) ⊕ (Bool)) (fun self1 x0 =>
    bif decide (x0 < (a0.length : Int)) then
     bnd a0.length x0 fun n2 =>
     Option.bind a0[n2]? fun y3 =>
     bnd a1.length x0 fun n4 =>
     Option.bind a1[n4]? fun y5 =>
     bif !decide (y3 = y5) then
      some (Sum.inr false)
     else self1 (IntKind.wrap .i64 (x0 + (1 : Int)))
    else some (Sum.inl ())) (0 : Int) : Option ((Unit) ⊕ (Bool))) fun y => match y with
  | .inl x6 =>
   some (true, ())
  | .inr x6 =>
   some (x6, ()) := by kernel_rfl
def c_sAgrees : TC :=
 (.seq (.rg [o1 1 (.a (.t 0)),
   o1 2 (.lit [.b] [.bool false])])
 (.seq (.seq (.rg [o1 11 (.idx .nil),
   o1 12 (.load 1 [] 1 (.t 11) 15 false),
   o3 13 54 [.t 12]])
 (.cond (.t 13)
  (.seq (.rg [o1 2 (.lit [.b] [.bool true])])
  .ret)
  .skip))
 (.seq (.rg [o1 15 (.idx .nil),
   o1 16 (.load 1 [] 0 (.t 15) 1 false),
   o1 17 (.idx .nil),
   o1 18 (.idx (.t 17)),
   o1 19 (.load 1 [] 15 (.t 18) 1 false),
   o3 20 55 [.t 16, .t 19],
   ⟨false, [], [], .det 2 (.copy 20), [14, 20], (some 14), none⟩,
   ⟨false, [], [], .det 2 (.ext 14 0 2), [21, 14], (some 21), none⟩,
   o1 22 (.ext 14 2 1),
   ⟨false, [], [], .det 2 (.a (.c [.i .i64, .sl [.i .i64, .i .i64]] [.int .i64 (0), .slice none 0 0])), [3, 1000000001], (some 3), none⟩,
   o4 2 [3, 21] (.store 3 [] 0 .nil (.t 21)),
   o1 4 (.copy 22)])
 (.seq (.rg [o1 23 (.sli [.sl [.i .i64, .i .i64]] []),
   ⟨false, [], [], .det 2 (.copy 23), [5, 23], (some 5), none⟩])
 (.seq (.join [⟨5, [.sl [.sl [.i .i64, .i .i64]]], false⟩] 1099494850656 none (.seq (.rg [o1 6 (.lit [.i .i64] [.int .i64 (0)])])
 (.block 0 (.loop [⟨5, [.sl [.sl [.i .i64, .i .i64]]], false⟩, ⟨6, [.i .i64], false⟩] 1099494850656
  (.seq (.seq (.rg [o1 24 (.copy 6),
    o1 25 (.idx .nil),
    o1 26 (.load 1 [] 16 (.t 25) 1 false),
    o1 27 (.len 26),
    o1 28 (.data (.bin .lss) [.t 24, .t 27])])
  (.cond (.t 28)
   .skip
   (.exit 0)))
  (.seq (.block 1 (.rg [⟨false, [], [], .det 2 (.copy 5), [31, 5], (some 31), none⟩,
    o1 32 (.idx .nil),
    o1 33 (.load 1 [] 16 (.t 32) 1 false),
    o1 34 (.copy 6),
    o1 35 (.index 33 (.t 34)),
    o1 36 (.load 33 [(0, 7)] 0 (.t 35) 7 false),
    o3 37 56 [.t 36],
    ⟨false, [], [], .det 2 (.sli [.sl [.i .i64, .i .i64]] [.t 37]), [38, 37], (some 38), none⟩,
    ⟨false, [], [], .det 3 (.app (some 31) 38), [39, 31, 38], (some 39), none⟩,
    ⟨false, [], [], .det 2 (.copy 39), [5, 39], (some 5), none⟩]))
  (.rg [o1 29 (.copy 6),
    o1 30 (.data (.bin .add) [.t 29, .c (.int .i64 (1))]),
    o1 6 (.copy 30)])))))))
 (.seq (.rg [⟨false, [], [], .det 2 (.copy 5), [41, 5], (some 41), none⟩,
   o1 42 (.idx .nil),
   o1 43 (.idx (.t 42)),
   o1 44 (.load 1 [] 3 (.t 43) 1 false),
   o3 45 57 [.t 41, .t 44],
   ⟨false, [], [], .det 2 (.copy 45), [40, 45], (some 40), none⟩,
   ⟨false, [], [], .det 2 (.ext 40 0 1), [46, 40], (some 46), none⟩,
   o1 47 (.ext 40 1 1),
   ⟨false, [], [], .det 2 (.copy 46), [7, 46], (some 7), none⟩,
   o1 8 (.copy 47)])
 (.seq (.rg [o1 49 (.idx .nil),
   o1 50 (.load 1 [] 0 (.t 49) 1 false),
   o1 51 (.idx .nil),
   o1 52 (.idx (.t 51)),
   o1 53 (.load 1 [] 4 (.t 52) 1 false),
   o1 54 (.idx .nil),
   o1 55 (.idx (.t 54)),
   o1 56 (.load 1 [] 3 (.t 55) 1 false),
   o3 57 58 [.t 50, .t 53, .t 56],
   ⟨false, [], [], .det 2 (.copy 57), [48, 57], (some 48), none⟩,
   ⟨false, [], [], .det 2 (.ext 48 0 1), [58, 48], (some 58), none⟩,
   o1 59 (.ext 48 1 1),
   ⟨false, [], [], .det 2 (.copy 58), [9, 58], (some 9), none⟩,
   o1 10 (.copy 59)])
 (.seq (.join [⟨2, [.b], false⟩] 604461756885809980506756 none (.rg [o1 60 (.copy 4),
   o1 61 (.copy 60),
   o2 62 (.copy 8) 1 true,
   ⟨false, [], [], .pick 61 (.t 62) (.c (.bool false)), [63], (some 63), none⟩,
   o1 64 (.copy 63),
   o2 65 (.copy 10) 4 true,
   ⟨false, [], [], .pick 64 (.t 65) (.c (.bool false)), [66], (some 66), none⟩,
   o1 67 (.copy 66),
   ⟨false, [], [], .det 2 (.copy 7), [68, 7], (some 68), some (7, true)⟩,
   o2 69 (.idx .nil) 7 true,
   o2 70 (.load 3 [] 1 (.t 69) 1 true) 7 true,
   ⟨false, [], [], .call 1 59 [.t 68, .t 70] .no, [71], (some 71), some (7, true)⟩,
   ⟨false, [], [], .pick 67 (.t 71) (.c (.bool false)), [72], (some 72), none⟩,
   o1 73 (.copy 72),
   ⟨false, [], [], .det 2 (.copy 9), [74, 9], (some 74), some (13, true)⟩,
   o2 75 (.load 3 [] 0 .nil 2 true) 13 true,
   ⟨false, [], [], .call 1 61 [.t 75] .no, [76], (some 76), some (13, true)⟩,
   ⟨false, [], [], .call 1 60 [.t 74, .t 76] .no, [77], (some 77), some (13, true)⟩,
   ⟨false, [], [], .pick 73 (.t 77) (.c (.bool false)), [78], (some 78), none⟩,
   o1 2 (.copy 78)]))
 .ret))))))))
def s_sAgrees : Sig := ⟨[.rd true [.d, .d, .sl (.own none) [.d], .sl (.own none) [.d, .d], .sl (.own none) [.sl (.own none) [.d]], .sl (.own none) [.d], .d, .d, .d, .d, .d, .d, .d, .sl (.own none) [.d, .d], .d, .sl (.own none) [.d, .d, .d, .d, .d, .d], .sl (.own none) [.d, .d, .sl (.own none) [.d, .d, .d, .d], .d, .d, .sl (.own none) [.d, .d], .sl (.own none) [.d]], .sl (.own none) [.sl (.own none) [.d, .d, .d]], .sl (.own none) [.d], .sl (.own none) [.d, .d, .d], .sl (.own none) [.d, .d, .d, .d, .d, .d, .d], .sl (.own none) [.d, .d, .d, .d, .d, .d, .d, .d, .sl (.own none) [.d, .d], .sl (.own none) [.d], .d, .d, .sl (.own none) [.d, .d], .d]]], (.one false [.d])⟩
noncomputable def E_sAgrees : TEnv := envOf [(54, p_sBusy), (55, p_sl15Graph), (56, p_sOwned), (57, p_sWholeEdges), (58, p_sWholeLabels), (59, p_sl05SameEdges), (61, p_sLabels), (60, p_sl05SameInts)]
noncomputable def f_sAgrees (n : Nat) : (Int × Int × List (Int) × List (Int × Int) × List (List (Int)) × List (Int) × Int × Int × Int × Int × Int × Int × Int × List (Int × Int) × Int × List (Int × Int × Int × Int × Int × Int) × List (Int × Int × List (Int × Int × Int × Bool) × Int × Bool × List (Int × Int) × List (Int)) × List (List (ByteArray × ByteArray × Int)) × List (Bool) × List (Int × Int × ByteArray) × List (Int × Int × Int × Int × Int × Int × Int) × List (Int × Int × Int × Int × Int × Int × Int × Bool × List (Int × Int) × List (Int) × Int × Int × List (Int × Int) × Int)) → Option ((Bool) × Unit) := runFn n E_sAgrees c_sAgrees [[.i .i64, .i .i64, .sl [.i .i64], .sl [.i .i64, .i .i64], .sl [.sl [.i .i64]], .sl [.i .i64], .i .i64, .i .i64, .i .i64, .i .i64, .i .i64, .i .i64, .i .i64, .sl [.i .i64, .i .i64], .i .i64, .sl [.i .i64, .i .i64, .i .i64, .i .i64, .i .i64, .i .i64], .sl [.i .i64, .i .i64, .sl [.i .i64, .i .i64, .i .i64, .b], .i .i64, .b, .sl [.i .i64, .i .i64], .sl [.i .i64]], .sl [.sl [.s, .s, .i .i64]], .sl [.b], .sl [.i .i64, .i .i64, .s], .sl [.i .i64, .i .i64, .i .i64, .i .i64, .i .i64, .i .i64, .i .i64], .sl [.i .i64, .i .i64, .i .i64, .i .i64, .i .i64, .i .i64, .i .i64, .b, .sl [.i .i64, .i .i64], .sl [.i .i64], .i .i64, .i .i64, .sl [.i .i64, .i .i64], .i .i64]]] [.b] [] [2] .no
noncomputable def g_sAgrees := f_sAgrees BIG
noncomputable def p_sAgrees : TSp := ⟨s_sAgrees, [[.i .i64, .i .i64, .sl [.i .i64], .sl [.i .i64, .i .i64], .sl [.sl [.i .i64]], .sl [.i .i64], .i .i64, .i .i64, .i .i64, .i .i64, .i .i64, .i .i64, .i .i64, .sl [.i .i64, .i .i64], .i .i64, .sl [.i .i64, .i .i64, .i .i64, .i .i64, .i .i64, .i .i64], .sl [.i .i64, .i .i64, .sl [.i .i64, .i .i64, .i .i64, .b], .i .i64, .b, .sl [.i .i64, .i .i64], .sl [.i .i64]], .sl [.sl [.s, .s, .i .i64]], .sl [.b], .sl [.i .i64, .i .i64, .s], .sl [.i .i64, .i .i64, .i .i64, .i .i64, .i .i64, .i .i64, .i .i64], .sl [.i .i64, .i .i64, .i .i64, .i .i64, .i .i64, .i .i64, .i .i64, .b, .sl [.i .i64, .i .i64], .sl [.i .i64], .i .i64, .i .i64, .sl [.i .i64, .i .i64], .i .i64]]], [.b], [], Ou.j .no, g_sAgrees⟩
theorem k_sAgrees : chkW PG E_sAgrees 21 s_sAgrees (c_sAgrees.ht 79) .no = some (c_sAgrees.wc E_sAgrees, [2]) := by kernel_rfl
theorem ok_sAgrees : p_sAgrees.Ok PG 21 := mkOk (env_cons ok_sBusy (env_cons ok_sl15Graph (env_cons ok_sOwned (env_cons ok_sWholeEdges (env_cons ok_sWholeLabels (env_cons ok_sl05SameEdges (env_cons ok_sLabels (env_cons ok_sl05SameInts (env_nil PG))))))))) k_sAgrees (by kernel_rfl)
theorem e_sAgrees (n : Nat) (a0 : Int × Int × List (Int) × List (Int × Int) × List ((List (Int))) × List (Int) × Int × Int × Int × Int × Int × Int × Int × List (Int × Int) × Int × List (Int × Int × Int × Int × Int × Int) × List (Int × Int × (List (Int × Int × Int × Bool)) × Int × Bool × (List (Int × Int)) × (List (Int))) × List ((List (ByteArray × ByteArray × Int))) × List (Bool) × List (Int × Int × ByteArray) × List (Int × Int × Int × Int × Int × Int × Int) × List (Int × Int × Int × Int × Int × Int × Int × Bool × (List (Int × Int)) × (List (Int)) × Int × Int × (List (Int × Int)) × Int)) : f_sAgrees n a0 =
  Option.bind (g_sBusy (a0.2.1, a0.2.2.1, a0.2.2.2.1, a0.2.2.2.2.1, a0.2.2.2.2.2.1, a0.2.2.2.2.2.2.1, a0.2.2.2.2.2.2.2.1, a0.2.2.2.2.2.2.2.2.1, a0.2.2.2.2.2.2.2.2.2.1, a0.2.2.2.2.2.2.2.2.2.2.1, a0.2.2.2.2.2.2.2.2.2.2.2.1, a0.2.2.2.2.2.2.2.2.2.2.2.2.1, a0.2.2.2.2.2.2.2.2.2.2.2.2.2.1, a0.2.2.2.2.2.2.2.2.2.2.2.2.2.2.1, a0.2.2.2.2.2.2.2.2.2.2.2.2.2.2.2.1)) fun r0 =>
  bif r0.1 then
   some (true, ())
  else Option.bind (g_sl15Graph (a0.1, a0.2.2.2.2.2.2.2.2.2.2.2.2.2.2.2.1)) fun r1 =>
  Option.bind (loopT n (X := (List ((List (Int × Int)))) × Int) (B := (List ((List (Int × Int))))) (fun self3 x2 =>
    bif decide (x2.2 < (a0.2.2.2.2.2.2.2.2.2.2.2.2.2.2.2.2.1.length : Int)) then
     bnd a0.2.2.2.2.2.2.2.2.2.2.2.2.2.2.2.2.1.length x2.2 fun n4 =>
     Option.bind a0.2.2.2.2.2.2.2.2.2.2.2.2.2.2.2.2.1[n4]? fun y5 =>
     Option.bind (g_sOwned y5) fun r6 =>
     bif decide (x2.1.length + [r6.1].length ≤ 4294967296) then
      self3 (x2.1 ++ [r6.1], IntKind.wrap .i64 (x2.2 + (1 : Int)))
     else none
    else some x2.1) ([], (0 : Int)) : Option ((List ((List (Int × Int)))))) fun x7 =>
  Option.bind (g_sWholeEdges (x7, a0.2.2.2.1)) fun r8 =>
  Option.bind (g_sWholeLabels (a0.1, a0.2.2.2.2.1, a0.2.2.2.1)) fun r9 =>
  Option.bind (bif r1.1.2.2 then
    bif r8.1.2 then
     bif r9.1.2 then
      Option.bind (g_sl05SameEdges (r8.1.1, r1.1.2.1)) fun r10 =>
      bif r10.1 then
       Option.bind (g_sLabels (r1.1.1, r1.1.2.1)) fun r11 =>
       Option.bind (g_sl05SameInts (r9.1.1, r11.1)) fun r12 =>
       some r12.1
      else some false
     else some false
    else some false
   else some false : Option (Bool)) fun x13 =>
  some (x13, ()) := by kernel_rfl
def c_iBusy : TC :=
 (.seq (.rg [o1 1 (.a (.t 0)),
   o1 2 (.lit [.b] [.bool false])])
 (.seq (.rg [o1 3 (.idx .nil),
   o1 4 (.idx (.t 3)),
   o1 5 (.load 1 [] 9 (.t 4) 1 false),
   o1 6 (.data (.bin .neq) [.t 5, .c (.int .i64 (0))]),
   o1 2 (.copy 6)])
 .ret))
def s_iBusy : Sig := ⟨[.rd true [.d, .sl (.own none) [.d], .sl (.own none) [.d, .d], .sl (.own none) [.sl (.own none) [.d]], .sl (.own none) [.d], .d, .d, .d, .d, .d, .d, .d, .sl (.own none) [.d, .d], .d, .sl (.own none) [.d, .d, .d, .d, .d, .d]]], (.one false [.d])⟩
noncomputable def E_iBusy : TEnv := envOf []
noncomputable def f_iBusy (n : Nat) : (Int × List (Int) × List (Int × Int) × List (List (Int)) × List (Int) × Int × Int × Int × Int × Int × Int × Int × List (Int × Int) × Int × List (Int × Int × Int × Int × Int × Int)) → Option ((Bool) × Unit) := runFn n E_iBusy c_iBusy [[.i .i64, .sl [.i .i64], .sl [.i .i64, .i .i64], .sl [.sl [.i .i64]], .sl [.i .i64], .i .i64, .i .i64, .i .i64, .i .i64, .i .i64, .i .i64, .i .i64, .sl [.i .i64, .i .i64], .i .i64, .sl [.i .i64, .i .i64, .i .i64, .i .i64, .i .i64, .i .i64]]] [.b] [] [2] .no
noncomputable def g_iBusy := f_iBusy BIG
noncomputable def p_iBusy : TSp := ⟨s_iBusy, [[.i .i64, .sl [.i .i64], .sl [.i .i64, .i .i64], .sl [.sl [.i .i64]], .sl [.i .i64], .i .i64, .i .i64, .i .i64, .i .i64, .i .i64, .i .i64, .i .i64, .sl [.i .i64, .i .i64], .i .i64, .sl [.i .i64, .i .i64, .i .i64, .i .i64, .i .i64, .i .i64]]], [.b], [], Ou.j .no, g_iBusy⟩
theorem k_iBusy : chkW PG E_iBusy 68 s_iBusy (c_iBusy.ht 7) .no = some (c_iBusy.wc E_iBusy, [2]) := by kernel_rfl
theorem ok_iBusy : p_iBusy.Ok PG 68 := mkOk (env_nil PG) k_iBusy (by kernel_rfl)
theorem e_iBusy (n : Nat) (a0 : Int × List (Int) × List (Int × Int) × List ((List (Int))) × List (Int) × Int × Int × Int × Int × Int × Int × Int × List (Int × Int) × Int × List (Int × Int × Int × Int × Int × Int)) : f_iBusy n a0 =
  some (!decide (a0.2.2.2.2.2.2.2.2.2.1 = (0 : Int)), ()) := by kernel_rfl
def c_icopyEdges : TC :=
 (.seq (.rg [o1 2 (.lit [.sl [.i .i64, .i .i64]] [.slice none 0 0])])
 (.seq (.rg [o1 3 (.copy 0),
   o1 4 (.app none 3),
   ⟨false, [], [], .det 2 (.copy 4), [2, 4], (some 2), none⟩])
 .ret))
def s_icopyEdges : Sig := ⟨[.rd false [.sl (.own none) [.d, .d]]], (.one false [.sl (.own none) [.d, .d]])⟩
noncomputable def E_icopyEdges : TEnv := envOf []
noncomputable def f_icopyEdges (n : Nat) : (List (Int × Int)) → Option ((List (Int × Int)) × Unit) := runFn n E_icopyEdges c_icopyEdges [[.sl [.i .i64, .i .i64]]] [.sl [.i .i64, .i .i64]] [] [2] .no
noncomputable def g_icopyEdges := f_icopyEdges BIG
noncomputable def p_icopyEdges : TSp := ⟨s_icopyEdges, [[.sl [.i .i64, .i .i64]]], [.sl [.i .i64, .i .i64]], [], Ou.j .no, g_icopyEdges⟩
theorem k_icopyEdges : chkW PG E_icopyEdges 154 s_icopyEdges (c_icopyEdges.ht 5) .no = some (c_icopyEdges.wc E_icopyEdges, [2]) := by kernel_rfl
theorem ok_icopyEdges : p_icopyEdges.Ok PG 154 := mkOk (env_nil PG) k_icopyEdges (by kernel_rfl)
theorem e_icopyEdges (n : Nat) (a0 : List (Int × Int)) : f_icopyEdges n a0 =
  bif decide (a0.length ≤ 4294967296) then
   some (a0, ())
  else none := by kernel_rfl
def c_iin : TC :=
 (.seq (.rg [o1 6 (.lit [.b] [.bool false])])
 (.seq (.join [⟨6, [.b], false⟩] 32704 none (.rg [o1 7 (.copy 0),
   o1 8 (.copy 1),
   o1 9 (.data (.bin .geq) [.t 7, .t 8]),
   o1 10 (.copy 9),
   o2 11 (.copy 0) 3 true,
   o2 12 (.copy 2) 3 true,
   o2 13 (.data (.bin .leq) [.t 11, .t 12]) 3 true,
   ⟨false, [], [], .pick 10 (.t 13) (.c (.bool false)), [14], (some 14), none⟩,
   o1 6 (.copy 14)]))
 .ret))
def s_iin : Sig := ⟨[.rd false [.d], .rd false [.d], .rd false [.d]], (.one false [.d])⟩
noncomputable def E_iin : TEnv := envOf []
noncomputable def f_iin (n : Nat) : Int × Int × Int → Option ((Bool) × Unit) := runFn n E_iin c_iin [[.i .i64], [.i .i64], [.i .i64]] [.b] [] [6] .no
noncomputable def g_iin := f_iin BIG
noncomputable def p_iin : TSp := ⟨s_iin, [[.i .i64], [.i .i64], [.i .i64]], [.b], [], Ou.j .no, g_iin⟩
theorem k_iin : chkW PG E_iin 100 s_iin (c_iin.ht 15) .no = some (c_iin.wc E_iin, [6]) := by kernel_rfl
theorem ok_iin : p_iin.Ok PG 100 := mkOk (env_nil PG) k_iin (by kernel_rfl)
theorem e_iin (n : Nat) (a0 : Int) (a1 : Int) (a2 : Int) : f_iin n (a0, a1, a2) =
  Option.bind (bif decide (a1 ≤ a0) then
    some (decide (a0 ≤ a2))
   else some false : Option (Bool)) fun x0 =>
  some (x0, ()) := by kernel_rfl
def c_iedgeOf : TC :=
 (.seq (.rg [o1 1 (.a (.t 0)),
   ⟨false, [], [], .det 2 (.a (.c [.i .i64, .i .i64] [.int .i64 (0), .int .i64 (0)])), [2, 1000000001], (some 2), none⟩])
 (.seq (.rg [o1 3 (.idx .nil),
   o1 4 (.load 1 [] 2 (.t 3) 1 false),
   o1 5 (.idx .nil),
   o1 6 (.load 1 [] 3 (.t 5) 1 false),
   o1 7 (.data .min [.t 4, .t 6]),
   o1 8 (.idx .nil),
   o1 9 (.load 1 [] 2 (.t 8) 1 false),
   o1 10 (.idx .nil),
   o1 11 (.load 1 [] 3 (.t 10) 1 false),
   o1 12 (.data .max [.t 9, .t 11]),
   o1 13 (.build [.i .i64, .i .i64] [(0, .t 7), (1, .t 12)]),
   o4 1 [2] (.store 2 [] 0 .nil (.t 13))])
 .ret))
def s_iedgeOf : Sig := ⟨[.rd true [.d, .d, .d, .d]], (.one true [.d, .d])⟩
noncomputable def E_iedgeOf : TEnv := envOf []
noncomputable def f_iedgeOf (n : Nat) : (Int × Int × Int × Int) → Option ((Int × Int) × Unit) := runFn n E_iedgeOf c_iedgeOf [[.i .i64, .i .i64, .i .i64, .i .i64]] [.i .i64, .i .i64] [] [2] .no
noncomputable def g_iedgeOf := f_iedgeOf BIG
noncomputable def p_iedgeOf : TSp := ⟨s_iedgeOf, [[.i .i64, .i .i64, .i .i64, .i .i64]], [.i .i64, .i .i64], [], Ou.j .no, g_iedgeOf⟩
theorem k_iedgeOf : chkW PG E_iedgeOf 177 s_iedgeOf (c_iedgeOf.ht 14) .no = some (c_iedgeOf.wc E_iedgeOf, [2]) := by kernel_rfl
theorem ok_iedgeOf : p_iedgeOf.Ok PG 177 := mkOk (env_nil PG) k_iedgeOf (by kernel_rfl)
theorem e_iedgeOf (n : Nat) (a0 : Int × Int × Int × Int) : f_iedgeOf n a0 =
  some (((if a0.2.2.2 < a0.2.2.1 then a0.2.2.2 else a0.2.2.1), (if a0.2.2.2 > a0.2.2.1 then a0.2.2.2 else a0.2.2.1)), ()) := by kernel_rfl
def c_iEdgeOk : TC :=
 (.seq (.rg [o1 3 (.a (.t 1)),
   o1 4 (.lit [.b] [.bool false])])
 (.seq (.join [⟨4, [.b], false⟩] 268435440 none (.rg [o1 5 (.copy 0),
   o3 6 100 [.t 5, .c [.i .i64] [.int .i64 (1)], .c [.i .i64] [.int .i64 (12)]],
   o1 7 (.copy 6),
   o2 8 (.idx .nil) 2 true,
   o2 9 (.load 3 [] 0 (.t 8) 1 false) 2 true,
   o2 10 (.copy 0) 2 true,
   o2 11 (.data (.bin .sub) [.t 10, .c (.int .i64 (1))]) 2 true,
   ⟨false, [], [], .call 1 100 [.t 9, .c [.i .i64] [.int .i64 (0)], .t 11] .no, [12], (some 12), some (2, true)⟩,
   ⟨false, [], [], .pick 7 (.t 12) (.c (.bool false)), [13], (some 13), none⟩,
   o1 14 (.copy 13),
   o2 15 (.idx .nil) 9 true,
   o2 16 (.load 3 [] 1 (.t 15) 1 false) 9 true,
   o2 17 (.copy 0) 9 true,
   o2 18 (.data (.bin .sub) [.t 17, .c (.int .i64 (1))]) 9 true,
   ⟨false, [], [], .call 1 100 [.t 16, .c [.i .i64] [.int .i64 (0)], .t 18] .no, [19], (some 19), some (9, true)⟩,
   ⟨false, [], [], .pick 14 (.t 19) (.c (.bool false)), [20], (some 20), none⟩,
   o1 21 (.copy 20),
   o2 22 (.idx .nil) 16 true,
   o2 23 (.load 3 [] 0 (.t 22) 1 false) 16 true,
   o2 24 (.idx .nil) 16 true,
   o2 25 (.load 3 [] 1 (.t 24) 1 false) 16 true,
   o2 26 (.data (.bin .lss) [.t 23, .t 25]) 16 true,
   ⟨false, [], [], .pick 21 (.t 26) (.c (.bool false)), [27], (some 27), none⟩,
   o1 4 (.copy 27)]))
 .ret))
def s_iEdgeOk : Sig := ⟨[.rd false [.d], .rd true [.d, .d]], (.one false [.d])⟩
noncomputable def E_iEdgeOk : TEnv := envOf [(100, p_iin)]
noncomputable def f_iEdgeOk (n : Nat) : Int × (Int × Int) → Option ((Bool) × Unit) := runFn n E_iEdgeOk c_iEdgeOk [[.i .i64], [.i .i64, .i .i64]] [.b] [] [4] .no
noncomputable def g_iEdgeOk := f_iEdgeOk BIG
noncomputable def p_iEdgeOk : TSp := ⟨s_iEdgeOk, [[.i .i64], [.i .i64, .i .i64]], [.b], [], Ou.j .no, g_iEdgeOk⟩
theorem k_iEdgeOk : chkW PG E_iEdgeOk 142 s_iEdgeOk (c_iEdgeOk.ht 28) .no = some (c_iEdgeOk.wc E_iEdgeOk, [4]) := by kernel_rfl
theorem ok_iEdgeOk : p_iEdgeOk.Ok PG 142 := mkOk (env_cons ok_iin (env_nil PG)) k_iEdgeOk (by kernel_rfl)
theorem e_iEdgeOk (n : Nat) (a0 : Int) (a1 : Int × Int) : f_iEdgeOk n (a0, a1) =
  Option.bind (Option.bind (g_iin (a0, (1 : Int), (12 : Int))) fun r0 =>
   bif r0.1 then
    Option.bind (g_iin (a1.1, (0 : Int), IntKind.wrap .i64 (a0 - (1 : Int)))) fun r1 =>
    bif r1.1 then
     Option.bind (g_iin (a1.2, (0 : Int), IntKind.wrap .i64 (a0 - (1 : Int)))) fun r2 =>
     bif r2.1 then
      some (decide (a1.1 < a1.2))
     else some false
    else some false
   else some false : Option (Bool)) fun x3 =>
  some (x3, ()) := by kernel_rfl
def c_iahead : TC :=
 (.seq (.rg [o1 2 (.a (.t 0)),
   o1 3 (.a (.t 1)),
   o1 4 (.lit [.b] [.bool false])])
 (.seq (.join [⟨4, [.b], false⟩] 16777200 none (.rg [o1 5 (.idx .nil),
   o1 6 (.load 2 [] 0 (.t 5) 1 false),
   o1 7 (.idx .nil),
   o1 8 (.load 3 [] 0 (.t 7) 1 false),
   o1 9 (.data (.bin .lss) [.t 6, .t 8]),
   o1 10 (.copy 9),
   o2 11 (.idx .nil) 5 false,
   o2 12 (.load 2 [] 0 (.t 11) 1 false) 5 false,
   o2 13 (.idx .nil) 5 false,
   o2 14 (.load 3 [] 0 (.t 13) 1 false) 5 false,
   o2 15 (.data (.bin .eql) [.t 12, .t 14]) 5 false,
   o2 16 (.copy 15) 5 false,
   o2 17 (.idx .nil) 11 true,
   o2 18 (.load 2 [] 1 (.t 17) 1 false) 11 true,
   o2 19 (.idx .nil) 11 true,
   o2 20 (.load 3 [] 1 (.t 19) 1 false) 11 true,
   o2 21 (.data (.bin .lss) [.t 18, .t 20]) 11 true,
   ⟨false, [], [], .pick 16 (.t 21) (.c (.bool false)), [22], (some 22), some (5, false)⟩,
   ⟨false, [], [], .pick 10 (.c (.bool true)) (.t 22), [23], (some 23), none⟩,
   o1 4 (.copy 23)]))
 .ret))
def s_iahead : Sig := ⟨[.rd true [.d, .d], .rd true [.d, .d]], (.one false [.d])⟩
noncomputable def E_iahead : TEnv := envOf []
noncomputable def f_iahead (n : Nat) : (Int × Int) × (Int × Int) → Option ((Bool) × Unit) := runFn n E_iahead c_iahead [[.i .i64, .i .i64], [.i .i64, .i .i64]] [.b] [] [4] .no
noncomputable def g_iahead := f_iahead BIG
noncomputable def p_iahead : TSp := ⟨s_iahead, [[.i .i64, .i .i64], [.i .i64, .i .i64]], [.b], [], Ou.j .no, g_iahead⟩
theorem k_iahead : chkW PG E_iahead 180 s_iahead (c_iahead.ht 24) .no = some (c_iahead.wc E_iahead, [4]) := by kernel_rfl
theorem ok_iahead : p_iahead.Ok PG 180 := mkOk (env_nil PG) k_iahead (by kernel_rfl)
theorem e_iahead (n : Nat) (a0 : Int × Int) (a1 : Int × Int) : f_iahead n (a0, a1) =
  Option.bind (bif decide (a0.1 < a1.1) then
    some true
   else bif decide (a0.1 = a1.1) then
    some (decide (a0.2 < a1.2))
   else some false : Option (Bool)) fun x0 =>
  some (x0, ()) := by kernel_rfl
def c_iedgesOk : TC :=
 (.seq (.rg [o1 4 (.lit [.b] [.bool false])])
 (.seq (.join [] 8589934576 (some [⟨4, [.b], false⟩]) (.seq (.rg [o1 7 (.copy 1),
   o1 8 (.len 7),
   o1 9 (.lit [.i .i64] [.int .i64 (0)])])
 (.block 0 (.loop [⟨9, [.i .i64], false⟩] 8589934192
  (.seq (.rg [o1 10 (.data (.bin .lss) [.t 9, .t 8])])
  (.seq (.cond (.t 10)
   .skip
   (.exit 0))
  (.seq (.join [] 4294965360 (some [⟨4, [.b], false⟩]) (.block 1 (.seq (.rg [o1 11 (.copy 9),
    o1 12 (.index 7 (.t 9)),
    o1 13 (.load 7 [(0, 2)] 0 (.t 12) 2 false),
    ⟨false, [], [], .det 2 (.a (.c [.i .i64, .i .i64] [.int .i64 (0), .int .i64 (0)])), [6, 1000000001], (some 6), none⟩,
    o1 5 (.copy 11),
    o4 1 [6] (.store 6 [] 0 .nil (.t 13))])
  (.seq (.join [⟨31, [.b], false⟩] 4294950912 none (.rg [o1 14 (.copy 0),
    o1 15 (.load 6 [] 0 .nil 2 false),
    o3 16 142 [.t 14, .t 15],
    o1 17 (.data .not [.t 16]),
    o1 18 (.copy 17),
    o2 19 (.copy 5) 4 false,
    o2 20 (.data (.bin .gtr) [.t 19, .c (.int .i64 (0))]) 4 false,
    o2 21 (.copy 20) 4 false,
    o2 22 (.copy 1) 7 true,
    o2 23 (.copy 5) 7 true,
    o2 24 (.data (.bin .sub) [.t 23, .c (.int .i64 (1))]) 7 true,
    o2 25 (.index 22 (.t 24)) 7 true,
    o2 26 (.load 22 [(0, 2)] 0 (.t 25) 2 false) 7 true,
    o2 27 (.load 6 [] 0 .nil 2 false) 7 true,
    ⟨false, [], [], .call 1 180 [.t 26, .t 27] .no, [28], (some 28), some (7, true)⟩,
    o2 29 (.data .not [.t 28]) 7 true,
    ⟨false, [], [], .pick 21 (.t 29) (.c (.bool false)), [30], (some 30), some (4, false)⟩,
    ⟨false, [], [], .pick 18 (.c (.bool true)) (.t 30), [31], (some 31), none⟩]))
  (.cond (.t 31)
   (.seq (.rg [o1 4 (.lit [.b] [.bool false])])
   .ret)
   .skip)))))
  (.rg [o1 32 (.data (.bin .add) [.t 9, .c (.int .i64 (1))]),
    o1 9 (.copy 32)]))))))))
 (.seq (.rg [o1 33 (.copy 1),
   o1 34 (.len 33),
   o1 35 (.data (.bin .leq) [.t 34, .c (.int .i64 (66))]),
   o1 4 (.copy 35)])
 .ret)))
def s_iedgesOk : Sig := ⟨[.rd false [.d], .rd false [.sl (.own none) [.d, .d]]], (.one false [.d])⟩
noncomputable def E_iedgesOk : TEnv := envOf [(142, p_iEdgeOk), (180, p_iahead)]
noncomputable def f_iedgesOk (n : Nat) : Int × (List (Int × Int)) → Option ((Bool) × Unit) := runFn n E_iedgesOk c_iedgesOk [[.i .i64], [.sl [.i .i64, .i .i64]]] [.b] [] [4] .no
noncomputable def g_iedgesOk := f_iedgesOk BIG
noncomputable def p_iedgesOk : TSp := ⟨s_iedgesOk, [[.i .i64], [.sl [.i .i64, .i .i64]]], [.b], [], Ou.j .no, g_iedgesOk⟩
theorem k_iedgesOk : chkW PG E_iedgesOk 163 s_iedgesOk (c_iedgesOk.ht 36) .no = some (c_iedgesOk.wc E_iedgesOk, [4]) := by kernel_rfl
theorem ok_iedgesOk : p_iedgesOk.Ok PG 163 := mkOk (env_cons ok_iEdgeOk (env_cons ok_iahead (env_nil PG))) k_iedgesOk (by kernel_rfl)
theorem e_iedgesOk (n : Nat) (a0 : Int) (a1 : List (Int × Int)) : f_iedgesOk n (a0, a1) =
  Option.bind (loopT n (X := Int) (B := (Unit) ⊕ (Bool)) (fun self1 x0 =>
    bif decide (x0 < (a1.length : Int)) then
     Option.bind (bnd a1.length x0 fun n2 =>
      Option.bind a1[n2]? fun y3 =>
      Option.bind (Option.bind (g_iEdgeOk (a0, y3)) fun r4 =>
       bif !r4.1 then
        some true
       else bif decide ((0 : Int) < x0) then
        bnd a1.length (IntKind.wrap .i64 (x0 - (1 : Int))) fun n5 =>
        Option.bind a1[n5]? fun y6 =>
        Option.bind (g_iahead (y6, y3)) fun r7 =>
        some !r7.1
       else some false : Option (Bool)) fun x8 =>
      bif x8 then
       some (Sum.inr false)
      else some (Sum.inl ()) : Option ((Unit) ⊕ (Bool))) fun y => match y with
     | .inl x9 =>
      self1 (IntKind.wrap .i64 (x0 + (1 : Int)))
     | .inr x9 =>
      some (Sum.inr x9)
    else some (Sum.inl ())) (0 : Int) : Option ((Unit) ⊕ (Bool))) fun y => match y with
  | .inl x10 =>
   some (decide ((a1.length : Int) ≤ (66 : Int)), ())
  | .inr x10 =>
   some (x10, ()) := by kernel_rfl
def c_iGraphOk : TC :=
 (.seq (.rg [o1 1 (.a (.t 0)),
   o1 2 (.lit [.b] [.bool false])])
 (.seq (.join [⟨2, [.b], false⟩] 8188 none (.rg [o1 3 (.idx .nil),
   o1 4 (.load 1 [] 0 (.t 3) 1 false),
   o3 5 100 [.t 4, .c [.i .i64] [.int .i64 (1)], .c [.i .i64] [.int .i64 (12)]],
   o1 6 (.copy 5),
   o2 7 (.idx .nil) 3 true,
   o2 8 (.load 1 [] 0 (.t 7) 1 false) 3 true,
   o2 9 (.idx .nil) 3 true,
   o2 10 (.load 1 [] 1 (.t 9) 1 false) 3 true,
   ⟨false, [], [], .call 1 163 [.t 8, .t 10] .no, [11], (some 11), some (3, true)⟩,
   ⟨false, [], [], .pick 6 (.t 11) (.c (.bool false)), [12], (some 12), none⟩,
   o1 2 (.copy 12)]))
 .ret))
def s_iGraphOk : Sig := ⟨[.rd true [.d, .sl (.own none) [.d, .d]]], (.one false [.d])⟩
noncomputable def E_iGraphOk : TEnv := envOf [(100, p_iin), (163, p_iedgesOk)]
noncomputable def f_iGraphOk (n : Nat) : (Int × List (Int × Int)) → Option ((Bool) × Unit) := runFn n E_iGraphOk c_iGraphOk [[.i .i64, .sl [.i .i64, .i .i64]]] [.b] [] [2] .no
noncomputable def g_iGraphOk := f_iGraphOk BIG
noncomputable def p_iGraphOk : TSp := ⟨s_iGraphOk, [[.i .i64, .sl [.i .i64, .i .i64]]], [.b], [], Ou.j .no, g_iGraphOk⟩
theorem k_iGraphOk : chkW PG E_iGraphOk 143 s_iGraphOk (c_iGraphOk.ht 13) .no = some (c_iGraphOk.wc E_iGraphOk, [2]) := by kernel_rfl
theorem ok_iGraphOk : p_iGraphOk.Ok PG 143 := mkOk (env_cons ok_iin (env_cons ok_iedgesOk (env_nil PG))) k_iGraphOk (by kernel_rfl)
theorem e_iGraphOk (n : Nat) (a0 : Int × List (Int × Int)) : f_iGraphOk n a0 =
  Option.bind (Option.bind (g_iin (a0.1, (1 : Int), (12 : Int))) fun r0 =>
   bif r0.1 then
    Option.bind (g_iedgesOk (a0.1, a0.2)) fun r1 =>
    some r1.1
   else some false : Option (Bool)) fun x2 =>
  some (x2, ()) := by kernel_rfl
def c_ihasEdge : TC :=
 (.seq (.rg [o1 3 (.a (.t 1)),
   o1 4 (.lit [.b] [.bool false])])
 (.seq (.join [] 131024 (some [⟨4, [.b], false⟩]) (.seq (.rg [o1 7 (.copy 0),
   o1 8 (.len 7),
   o1 9 (.lit [.i .i64] [.int .i64 (0)])])
 (.block 0 (.loop [⟨9, [.i .i64], false⟩] 130640
  (.seq (.rg [o1 10 (.data (.bin .lss) [.t 9, .t 8])])
  (.seq (.cond (.t 10)
   .skip
   (.exit 0))
  (.seq (.block 1 (.seq (.rg [o1 11 (.index 7 (.t 9)),
    o1 12 (.load 7 [(0, 2)] 0 (.t 11) 2 false),
    ⟨false, [], [], .det 2 (.a (.c [.i .i64, .i .i64] [.int .i64 (0), .int .i64 (0)])), [6, 1000000001], (some 6), none⟩,
    o4 1 [6] (.store 6 [] 0 .nil (.t 12))])
  (.seq (.rg [o1 13 (.load 6 [] 0 .nil 2 false),
    o1 14 (.load 3 [] 0 .nil 2 false),
    o1 15 (.eqA [.i, .i] (.t 13) (.t 14) false)])
  (.cond (.t 15)
   (.seq (.rg [o1 4 (.lit [.b] [.bool true])])
   .ret)
   .skip))))
  (.rg [o1 16 (.data (.bin .add) [.t 9, .c (.int .i64 (1))]),
    o1 9 (.copy 16)]))))))))
 (.seq (.rg [o1 4 (.lit [.b] [.bool false])])
 .ret)))
def s_ihasEdge : Sig := ⟨[.rd false [.sl (.own none) [.d, .d]], .rd true [.d, .d]], (.one false [.d])⟩
noncomputable def E_ihasEdge : TEnv := envOf []
noncomputable def f_ihasEdge (n : Nat) : (List (Int × Int)) × (Int × Int) → Option ((Bool) × Unit) := runFn n E_ihasEdge c_ihasEdge [[.sl [.i .i64, .i .i64]], [.i .i64, .i .i64]] [.b] [] [4] .no
noncomputable def g_ihasEdge := f_ihasEdge BIG
noncomputable def p_ihasEdge : TSp := ⟨s_ihasEdge, [[.sl [.i .i64, .i .i64]], [.i .i64, .i .i64]], [.b], [], Ou.j .no, g_ihasEdge⟩
theorem k_ihasEdge : chkW PG E_ihasEdge 138 s_ihasEdge (c_ihasEdge.ht 17) .no = some (c_ihasEdge.wc E_ihasEdge, [4]) := by kernel_rfl
theorem ok_ihasEdge : p_ihasEdge.Ok PG 138 := mkOk (env_nil PG) k_ihasEdge (by kernel_rfl)
theorem e_ihasEdge (n : Nat) (a0 : List (Int × Int)) (a1 : Int × Int) : f_ihasEdge n (a0, a1) =
  Option.bind (loopT n (X := Int) (B := (Unit) ⊕ (Bool)) (fun self1 x0 =>
    bif decide (x0 < (a0.length : Int)) then
     bnd a0.length x0 fun n2 =>
     Option.bind a0[n2]? fun y3 =>
     bif (decide (y3.1 = a1.1) && (decide (y3.2 = a1.2) && true)) then
      some (Sum.inr true)
     else self1 (IntKind.wrap .i64 (x0 + (1 : Int)))
    else some (Sum.inl ())) (0 : Int) : Option ((Unit) ⊕ (Bool))) fun y => match y with
  | .inl x4 =>
   some (false, ())
  | .inr x4 =>
   some (x4, ()) := by kernel_rfl
def c_iHasEdge : TC :=
 (.seq (.rg [o1 2 (.a (.t 0)),
   o1 3 (.a (.t 1)),
   o1 4 (.lit [.b] [.bool false])])
 (.seq (.rg [o1 5 (.idx .nil),
   o1 6 (.load 2 [] 1 (.t 5) 1 false),
   o1 7 (.load 3 [] 0 .nil 2 false),
   o3 8 138 [.t 6, .t 7],
   o1 4 (.copy 8)])
 .ret))
def s_iHasEdge : Sig := ⟨[.rd true [.d, .sl (.own none) [.d, .d]], .rd true [.d, .d]], (.one false [.d])⟩
noncomputable def E_iHasEdge : TEnv := envOf [(138, p_ihasEdge)]
noncomputable def f_iHasEdge (n : Nat) : (Int × List (Int × Int)) × (Int × Int) → Option ((Bool) × Unit) := runFn n E_iHasEdge c_iHasEdge [[.i .i64, .sl [.i .i64, .i .i64]], [.i .i64, .i .i64]] [.b] [] [4] .no
noncomputable def g_iHasEdge := f_iHasEdge BIG
noncomputable def p_iHasEdge : TSp := ⟨s_iHasEdge, [[.i .i64, .sl [.i .i64, .i .i64]], [.i .i64, .i .i64]], [.b], [], Ou.j .no, g_iHasEdge⟩
theorem k_iHasEdge : chkW PG E_iHasEdge 194 s_iHasEdge (c_iHasEdge.ht 9) .no = some (c_iHasEdge.wc E_iHasEdge, [4]) := by kernel_rfl
theorem ok_iHasEdge : p_iHasEdge.Ok PG 194 := mkOk (env_cons ok_ihasEdge (env_nil PG)) k_iHasEdge (by kernel_rfl)
theorem e_iHasEdge (n : Nat) (a0 : Int × List (Int × Int)) (a1 : Int × Int) : f_iHasEdge n (a0, a1) =
  Option.bind (g_ihasEdge (a0.2, a1)) fun r0 =>
  some (r0.1, ()) := by kernel_rfl
def c_iwithEdge : TC :=
 (.seq (.rg [o1 3 (.a (.t 1)),
   o1 4 (.lit [.sl [.i .i64, .i .i64]] [.slice none 0 0])])
 (.seq (.rg [o1 5 (.lit [.i .i64] [.int .i64 (0)])])
 (.seq (.join [⟨5, [.i .i64], false⟩] 1048544 none (.block 0 (.loop [⟨5, [.i .i64], false⟩] 1048544
  (.seq (.seq (.join [⟨17, [.b], false⟩] 262080 none (.rg [o1 6 (.copy 5),
    o1 7 (.copy 0),
    o1 8 (.len 7),
    o1 9 (.data (.bin .lss) [.t 6, .t 8]),
    o1 10 (.copy 9),
    o2 11 (.copy 0) 4 true,
    o2 12 (.copy 5) 4 true,
    o2 13 (.index 11 (.t 12)) 4 true,
    o2 14 (.load 11 [(0, 2)] 0 (.t 13) 2 false) 4 true,
    o2 15 (.load 3 [] 0 .nil 2 false) 4 true,
    ⟨false, [], [], .call 1 180 [.t 14, .t 15] .no, [16], (some 16), some (4, true)⟩,
    ⟨false, [], [], .pick 10 (.t 16) (.c (.bool false)), [17], (some 17), none⟩]))
  (.cond (.t 17)
   .skip
   (.exit 0)))
  (.block 1 (.rg [o1 18 (.copy 5),
    o1 19 (.data (.bin .add) [.t 18, .c (.int .i64 (1))]),
    o1 5 (.copy 19)]))))))
 (.seq (.rg [o1 20 (.copy 0),
   o1 21 (.copy 5),
   o1 22 (.res 20 none (some (.t 21))),
   o1 23 (.app none 22),
   o1 24 (.load 3 [] 0 .nil 2 false),
   o1 25 (.sli [.i .i64, .i .i64] [.t 24]),
   ⟨false, [], [], .det 2 (.app (some 23) 25), [26, 23], (some 26), none⟩,
   o1 27 (.copy 0),
   o1 28 (.copy 5),
   o1 29 (.res 27 (some (.t 28)) none),
   ⟨false, [], [], .det 2 (.app (some 26) 29), [30, 26], (some 30), none⟩,
   ⟨false, [], [], .det 2 (.copy 30), [4, 30], (some 4), none⟩])
 .ret))))
def s_iwithEdge : Sig := ⟨[.rd false [.sl (.own none) [.d, .d]], .rd true [.d, .d]], (.one false [.sl (.own none) [.d, .d]])⟩
noncomputable def E_iwithEdge : TEnv := envOf [(180, p_iahead)]
noncomputable def f_iwithEdge (n : Nat) : (List (Int × Int)) × (Int × Int) → Option ((List (Int × Int)) × Unit) := runFn n E_iwithEdge c_iwithEdge [[.sl [.i .i64, .i .i64]], [.i .i64, .i .i64]] [.sl [.i .i64, .i .i64]] [] [4] .no
noncomputable def g_iwithEdge := f_iwithEdge BIG
noncomputable def p_iwithEdge : TSp := ⟨s_iwithEdge, [[.sl [.i .i64, .i .i64]], [.i .i64, .i .i64]], [.sl [.i .i64, .i .i64]], [], Ou.j .no, g_iwithEdge⟩
theorem k_iwithEdge : chkW PG E_iwithEdge 139 s_iwithEdge (c_iwithEdge.ht 31) .no = some (c_iwithEdge.wc E_iwithEdge, [4]) := by kernel_rfl
theorem ok_iwithEdge : p_iwithEdge.Ok PG 139 := mkOk (env_cons ok_iahead (env_nil PG)) k_iwithEdge (by kernel_rfl)
theorem e_iwithEdge (n : Nat) (a0 : List (Int × Int)) (a1 : Int × Int) : f_iwithEdge n (a0, a1) =
  Option.bind (loopT n (X := Int) (B := Int) (fun self1 x0 =>
    Option.bind (bif decide (x0 < (a0.length : Int)) then
      bnd a0.length x0 fun n2 =>
      Option.bind a0[n2]? fun y3 =>
      Option.bind (g_iahead (y3, a1)) fun r4 =>
      some r4.1
     else some false : Option (Bool)) fun x5 =>
    bif x5 then
     self1 (IntKind.wrap .i64 (x0 + (1 : Int)))
    else some x0) (0 : Int) : Option (Int)) fun x6 =>
  bif decide (0 ≤ x6) then
   bif decide (0 ≤ (Int.toNat x6) ∧ (Int.toNat x6) ≤ a0.length) then
    bif decide ((List.take ((Int.toNat x6) - 0) (List.drop 0 a0)).length ≤ 4294967296) then
     bif decide ((List.take ((Int.toNat x6) - 0) (List.drop 0 a0)).length + [a1].length ≤ 4294967296) then
      bif decide (0 ≤ x6) then
       bif decide ((Int.toNat x6) ≤ a0.length ∧ a0.length ≤ a0.length) then
        bif decide (((List.take ((Int.toNat x6) - 0) (List.drop 0 a0)) ++ [a1]).length + (List.take (a0.length - (Int.toNat x6)) (List.drop (Int.toNat x6) a0)).length ≤ 4294967296) then
         some (((List.take ((Int.toNat x6) - 0) (List.drop 0 a0)) ++ [a1]) ++ (List.take (a0.length - (Int.toNat x6)) (List.drop (Int.toNat x6) a0)), ())
        else none
       else none
      else none
     else none
    else none
   else none
  else none := by kernel_rfl
def c_iAddEdge : TC :=
 (.seq (.rg [o1 2 (.a (.t 0)),
   o1 3 (.a (.t 1)),
   ⟨false, [], [], .det 2 (.a (.c [.i .i64, .sl [.i .i64, .i .i64]] [.int .i64 (0), .slice none 0 0])), [4, 1000000001], (some 4), none⟩,
   o1 5 (.lit [.b] [.bool false])])
 (.seq (.seq (.join [⟨20, [.b], false⟩] 2097088 none (.rg [o1 6 (.load 2 [] 0 .nil 2 false),
   o3 7 143 [.t 6],
   o1 8 (.data .not [.t 7]),
   o1 9 (.copy 8),
   o2 10 (.idx .nil) 3 false,
   o2 11 (.load 2 [] 0 (.t 10) 1 false) 3 false,
   o2 12 (.load 3 [] 0 .nil 2 false) 3 false,
   ⟨false, [], [], .call 1 142 [.t 11, .t 12] .no, [13], (some 13), some (3, false)⟩,
   o2 14 (.data .not [.t 13]) 3 false,
   ⟨false, [], [], .pick 9 (.c (.bool true)) (.t 14), [15], (some 15), none⟩,
   o1 16 (.copy 15),
   o2 17 (.load 2 [] 0 .nil 2 false) 10 false,
   o2 18 (.load 3 [] 0 .nil 2 false) 10 false,
   ⟨false, [], [], .call 1 194 [.t 17, .t 18] .no, [19], (some 19), some (10, false)⟩,
   ⟨false, [], [], .pick 16 (.c (.bool true)) (.t 19), [20], (some 20), none⟩]))
 (.cond (.t 20)
  (.seq (.rg [o1 21 (.build [.i .i64, .sl [.i .i64, .i .i64]] []),
    o4 2 [4, 21] (.store 4 [] 0 .nil (.t 21)),
    o1 5 (.lit [.b] [.bool false])])
  .ret)
  .skip))
 (.seq (.rg [o1 22 (.idx .nil),
   o1 23 (.load 2 [] 0 (.t 22) 1 false),
   o1 24 (.idx .nil),
   o1 25 (.load 2 [] 1 (.t 24) 1 false),
   o1 26 (.load 3 [] 0 .nil 2 false),
   o3 27 139 [.t 25, .t 26],
   ⟨false, [], [], .det 2 (.build [.i .i64, .sl [.i .i64, .i .i64]] [(0, .t 23), (1, .t 27)]), [28, 27], (some 28), none⟩,
   o4 2 [4, 28] (.store 4 [] 0 .nil (.t 28)),
   o1 5 (.lit [.b] [.bool true])])
 .ret)))
def s_iAddEdge : Sig := ⟨[.rd true [.d, .sl (.own none) [.d, .d]], .rd true [.d, .d]], (.tup [(true, 2), (false, 1)] [.d, .sl (.own none) [.d, .d], .d])⟩
noncomputable def E_iAddEdge : TEnv := envOf [(143, p_iGraphOk), (142, p_iEdgeOk), (194, p_iHasEdge), (139, p_iwithEdge)]
noncomputable def f_iAddEdge (n : Nat) : (Int × List (Int × Int)) × (Int × Int) → Option ((Int × List (Int × Int) × Bool) × Unit) := runFn n E_iAddEdge c_iAddEdge [[.i .i64, .sl [.i .i64, .i .i64]], [.i .i64, .i .i64]] [.i .i64, .sl [.i .i64, .i .i64], .b] [] [4, 5] .no
noncomputable def g_iAddEdge := f_iAddEdge BIG
noncomputable def p_iAddEdge : TSp := ⟨s_iAddEdge, [[.i .i64, .sl [.i .i64, .i .i64]], [.i .i64, .i .i64]], [.i .i64, .sl [.i .i64, .i .i64], .b], [], Ou.j .no, g_iAddEdge⟩
theorem k_iAddEdge : chkW PG E_iAddEdge 176 s_iAddEdge (c_iAddEdge.ht 29) .no = some (c_iAddEdge.wc E_iAddEdge, [4, 5]) := by kernel_rfl
theorem ok_iAddEdge : p_iAddEdge.Ok PG 176 := mkOk (env_cons ok_iGraphOk (env_cons ok_iEdgeOk (env_cons ok_iHasEdge (env_cons ok_iwithEdge (env_nil PG))))) k_iAddEdge (by kernel_rfl)
theorem e_iAddEdge (n : Nat) (a0 : Int × List (Int × Int)) (a1 : Int × Int) : f_iAddEdge n (a0, a1) =
  Option.bind (Option.bind (g_iGraphOk a0) fun r0 =>
   bif !r0.1 then
    some true
   else Option.bind (g_iEdgeOk (a0.1, a1)) fun r1 =>
   bif !r1.1 then
    some true
   else Option.bind (g_iHasEdge (a0, a1)) fun r2 =>
   some r2.1 : Option (Bool)) fun x3 =>
  bif x3 then
   some (((0 : Int), [], false), ())
  else Option.bind (g_iwithEdge (a0.2, a1)) fun r4 =>
  some ((a0.1, r4.1, true), ()) := by kernel_rfl
def c_iwithoutEdge : TC :=
 (.seq (.rg [o1 3 (.a (.t 1)),
   o1 4 (.lit [.sl [.i .i64, .i .i64]] [.slice none 0 0])])
 (.seq (.rg [o1 5 (.lit [.sl [.i .i64, .i .i64]] [.slice none 0 0])])
 (.seq (.join [⟨5, [.sl [.i .i64, .i .i64]], false⟩] 4194208 none (.seq (.rg [o1 8 (.copy 0),
   o1 9 (.len 8),
   o1 10 (.lit [.i .i64] [.int .i64 (0)])])
 (.block 0 (.loop [⟨5, [.sl [.i .i64, .i .i64]], false⟩, ⟨10, [.i .i64], false⟩] 4193440
  (.seq (.rg [o1 11 (.data (.bin .lss) [.t 10, .t 9])])
  (.seq (.cond (.t 11)
   .skip
   (.exit 0))
  (.seq (.join [⟨5, [.sl [.i .i64, .i .i64]], false⟩] 2093216 none (.block 1 (.seq (.rg [o1 12 (.index 8 (.t 10)),
    o1 13 (.load 8 [(0, 2)] 0 (.t 12) 2 false),
    ⟨false, [], [], .det 2 (.a (.c [.i .i64, .i .i64] [.int .i64 (0), .int .i64 (0)])), [7, 1000000001], (some 7), none⟩,
    o4 1 [7] (.store 7 [] 0 .nil (.t 13))])
  (.seq (.rg [o1 14 (.load 7 [] 0 .nil 2 false),
    o1 15 (.load 3 [] 0 .nil 2 false),
    o1 16 (.eqA [.i, .i] (.t 14) (.t 15) true)])
  (.cond (.t 16)
   (.rg [⟨false, [], [], .det 2 (.copy 5), [17, 5], (some 17), none⟩,
     o1 18 (.load 7 [] 0 .nil 2 false),
     o1 19 (.sli [.i .i64, .i .i64] [.t 18]),
     ⟨false, [], [], .det 2 (.app (some 17) 19), [20, 17], (some 20), none⟩,
     ⟨false, [], [], .det 2 (.copy 20), [5, 20], (some 5), none⟩])
   .skip)))))
  (.rg [o1 21 (.data (.bin .add) [.t 10, .c (.int .i64 (1))]),
    o1 10 (.copy 21)]))))))))
 (.seq (.rg [⟨false, [], [], .det 2 (.copy 5), [22, 5], (some 22), none⟩,
   ⟨false, [], [], .det 2 (.copy 22), [4, 22], (some 4), none⟩])
 .ret))))
def s_iwithoutEdge : Sig := ⟨[.rd false [.sl (.own none) [.d, .d]], .rd true [.d, .d]], (.one false [.sl (.own none) [.d, .d]])⟩
noncomputable def E_iwithoutEdge : TEnv := envOf []
noncomputable def f_iwithoutEdge (n : Nat) : (List (Int × Int)) × (Int × Int) → Option ((List (Int × Int)) × Unit) := runFn n E_iwithoutEdge c_iwithoutEdge [[.sl [.i .i64, .i .i64]], [.i .i64, .i .i64]] [.sl [.i .i64, .i .i64]] [] [4] .no
noncomputable def g_iwithoutEdge := f_iwithoutEdge BIG
noncomputable def p_iwithoutEdge : TSp := ⟨s_iwithoutEdge, [[.sl [.i .i64, .i .i64]], [.i .i64, .i .i64]], [.sl [.i .i64, .i .i64]], [], Ou.j .no, g_iwithoutEdge⟩
theorem k_iwithoutEdge : chkW PG E_iwithoutEdge 165 s_iwithoutEdge (c_iwithoutEdge.ht 23) .no = some (c_iwithoutEdge.wc E_iwithoutEdge, [4]) := by kernel_rfl
theorem ok_iwithoutEdge : p_iwithoutEdge.Ok PG 165 := mkOk (env_nil PG) k_iwithoutEdge (by kernel_rfl)
theorem e_iwithoutEdge (n : Nat) (a0 : List (Int × Int)) (a1 : Int × Int) : f_iwithoutEdge n (a0, a1) =
  Option.bind (loopT n (X := (List (Int × Int)) × Int) (B := (List (Int × Int))) (fun self1 x0 =>
    bif decide (x0.2 < (a0.length : Int)) then
     Option.bind (bnd a0.length x0.2 fun n2 =>
      Option.bind a0[n2]? fun y3 =>
      bif !(decide (y3.1 = a1.1) && (decide (y3.2 = a1.2) && true)) then
       bif decide (x0.1.length + [y3].length ≤ 4294967296) then
        some (x0.1 ++ [y3])
       else none
      else some x0.1 : Option ((List (Int × Int)))) fun x4 =>
     self1 (x4, IntKind.wrap .i64 (x0.2 + (1 : Int)))
    else some x0.1) ([], (0 : Int)) : Option ((List (Int × Int)))) fun x5 =>
  some (x5, ()) := by kernel_rfl
def c_iTakeEdge : TC :=
 (.seq (.rg [o1 2 (.a (.t 0)),
   o1 3 (.a (.t 1)),
   ⟨false, [], [], .det 2 (.a (.c [.i .i64, .sl [.i .i64, .i .i64]] [.int .i64 (0), .slice none 0 0])), [4, 1000000001], (some 4), none⟩,
   o1 5 (.lit [.b] [.bool false])])
 (.seq (.seq (.join [⟨14, [.b], false⟩] 32704 none (.rg [o1 6 (.load 2 [] 0 .nil 2 false),
   o3 7 143 [.t 6],
   o1 8 (.data .not [.t 7]),
   o1 9 (.copy 8),
   o2 10 (.load 2 [] 0 .nil 2 false) 3 false,
   o2 11 (.load 3 [] 0 .nil 2 false) 3 false,
   ⟨false, [], [], .call 1 194 [.t 10, .t 11] .no, [12], (some 12), some (3, false)⟩,
   o2 13 (.data .not [.t 12]) 3 false,
   ⟨false, [], [], .pick 9 (.c (.bool true)) (.t 13), [14], (some 14), none⟩]))
 (.cond (.t 14)
  (.seq (.rg [o1 15 (.build [.i .i64, .sl [.i .i64, .i .i64]] []),
    o4 2 [4, 15] (.store 4 [] 0 .nil (.t 15)),
    o1 5 (.lit [.b] [.bool false])])
  .ret)
  .skip))
 (.seq (.rg [o1 16 (.idx .nil),
   o1 17 (.load 2 [] 0 (.t 16) 1 false),
   o1 18 (.idx .nil),
   o1 19 (.load 2 [] 1 (.t 18) 1 false),
   o1 20 (.load 3 [] 0 .nil 2 false),
   o3 21 165 [.t 19, .t 20],
   ⟨false, [], [], .det 2 (.build [.i .i64, .sl [.i .i64, .i .i64]] [(0, .t 17), (1, .t 21)]), [22, 21], (some 22), none⟩,
   o4 2 [4, 22] (.store 4 [] 0 .nil (.t 22)),
   o1 5 (.lit [.b] [.bool true])])
 .ret)))
def s_iTakeEdge : Sig := ⟨[.rd true [.d, .sl (.own none) [.d, .d]], .rd true [.d, .d]], (.tup [(true, 2), (false, 1)] [.d, .sl (.own none) [.d, .d], .d])⟩
noncomputable def E_iTakeEdge : TEnv := envOf [(143, p_iGraphOk), (194, p_iHasEdge), (165, p_iwithoutEdge)]
noncomputable def f_iTakeEdge (n : Nat) : (Int × List (Int × Int)) × (Int × Int) → Option ((Int × List (Int × Int) × Bool) × Unit) := runFn n E_iTakeEdge c_iTakeEdge [[.i .i64, .sl [.i .i64, .i .i64]], [.i .i64, .i .i64]] [.i .i64, .sl [.i .i64, .i .i64], .b] [] [4, 5] .no
noncomputable def g_iTakeEdge := f_iTakeEdge BIG
noncomputable def p_iTakeEdge : TSp := ⟨s_iTakeEdge, [[.i .i64, .sl [.i .i64, .i .i64]], [.i .i64, .i .i64]], [.i .i64, .sl [.i .i64, .i .i64], .b], [], Ou.j .no, g_iTakeEdge⟩
theorem k_iTakeEdge : chkW PG E_iTakeEdge 178 s_iTakeEdge (c_iTakeEdge.ht 23) .no = some (c_iTakeEdge.wc E_iTakeEdge, [4, 5]) := by kernel_rfl
theorem ok_iTakeEdge : p_iTakeEdge.Ok PG 178 := mkOk (env_cons ok_iGraphOk (env_cons ok_iHasEdge (env_cons ok_iwithoutEdge (env_nil PG)))) k_iTakeEdge (by kernel_rfl)
theorem e_iTakeEdge (n : Nat) (a0 : Int × List (Int × Int)) (a1 : Int × Int) : f_iTakeEdge n (a0, a1) =
  Option.bind (Option.bind (g_iGraphOk a0) fun r0 =>
   bif !r0.1 then
    some true
   else Option.bind (g_iHasEdge (a0, a1)) fun r1 =>
   some !r1.1 : Option (Bool)) fun x2 =>
  bif x2 then
   some (((0 : Int), [], false), ())
  else Option.bind (g_iwithoutEdge (a0.2, a1)) fun r3 =>
  some ((a0.1, r3.1, true), ()) := by kernel_rfl
def c_ifirst : TC :=
 (.seq (.rg [o1 2 (.lit [.sl [.i .i64]] [.slice none 0 0])])
 (.seq (.rg [o1 3 (.lit [.sl [.i .i64]] [.slice none 0 0])])
 (.seq (.join [⟨3, [.sl [.i .i64]], false⟩] 16376 none (.seq (.rg [o1 5 (.copy 0),
   o1 6 (.lit [.i .i64] [.int .i64 (0)])])
 (.block 0 (.loop [⟨3, [.sl [.i .i64]], false⟩, ⟨6, [.i .i64], false⟩] 16344
  (.seq (.rg [o1 7 (.data (.bin .lss) [.t 6, .t 5])])
  (.seq (.cond (.t 7)
   .skip
   (.exit 0))
  (.seq (.block 1 (.seq (.rg [o1 8 (.copy 6),
    o1 4 (.copy 8)])
  (.rg [⟨false, [], [], .det 2 (.copy 3), [9, 3], (some 9), none⟩,
    o1 10 (.copy 4),
    o1 11 (.sli [.i .i64] [.t 10]),
    ⟨false, [], [], .det 2 (.app (some 9) 11), [12, 9], (some 12), none⟩,
    ⟨false, [], [], .det 2 (.copy 12), [3, 12], (some 3), none⟩])))
  (.rg [o1 13 (.data (.bin .add) [.t 6, .c (.int .i64 (1))]),
    o1 6 (.copy 13)]))))))))
 (.seq (.rg [⟨false, [], [], .det 2 (.copy 3), [14, 3], (some 14), none⟩,
   ⟨false, [], [], .det 2 (.copy 14), [2, 14], (some 2), none⟩])
 .ret))))
def s_ifirst : Sig := ⟨[.rd false [.d]], (.one false [.sl (.own none) [.d]])⟩
noncomputable def E_ifirst : TEnv := envOf []
noncomputable def f_ifirst (n : Nat) : Int → Option ((List (Int)) × Unit) := runFn n E_ifirst c_ifirst [[.i .i64]] [.sl [.i .i64]] [] [2] .no
noncomputable def g_ifirst := f_ifirst BIG
noncomputable def p_ifirst : TSp := ⟨s_ifirst, [[.i .i64]], [.sl [.i .i64]], [], Ou.j .no, g_ifirst⟩
theorem k_ifirst : chkW PG E_ifirst 101 s_ifirst (c_ifirst.ht 15) .no = some (c_ifirst.wc E_ifirst, [2]) := by kernel_rfl
theorem ok_ifirst : p_ifirst.Ok PG 101 := mkOk (env_nil PG) k_ifirst (by kernel_rfl)
theorem e_ifirst (n : Nat) (a0 : Int) : f_ifirst n a0 =
  Option.bind (loopT n (X := (List (Int)) × Int) (B := (List (Int))) (fun self1 x0 =>
    bif decide (x0.2 < a0) then
     bif decide (x0.1.length + [x0.2].length ≤ 4294967296) then
      self1 (x0.1 ++ [x0.2], IntKind.wrap .i64 (x0.2 + (1 : Int)))
     else none
    else some x0.1) ([], (0 : Int)) : Option ((List (Int)))) fun x2 =>
  some (x2, ()) := by kernel_rfl
def c_iunion : TC :=
 (.seq (.rg [o1 6 (.lit [.b] [.bool false])])
 (.seq (.rg [⟨true, [], [], .det 1 (.copy 0), [10], (some 10), none⟩,
   o1 11 (.copy 1),
   o1 12 (.index 10 (.t 11)),
   o1 13 (.load 0 [(0, 1)] 0 (.t 12) 1 false),
   ⟨true, [], [], .det 1 (.copy 0), [14], (some 14), none⟩,
   o1 15 (.copy 2),
   o1 16 (.index 14 (.t 15)),
   o1 17 (.load 0 [(0, 1)] 0 (.t 16) 1 false),
   o1 7 (.copy 13),
   o1 8 (.copy 17)])
 (.seq (.seq (.rg [o1 18 (.copy 7),
   o1 19 (.copy 8),
   o1 20 (.data (.bin .eql) [.t 18, .t 19])])
 (.cond (.t 20)
  (.seq (.rg [o1 6 (.lit [.b] [.bool false])])
  .ret)
  .skip))
 (.seq (.join [⟨0, [.sl [.i .i64]], false⟩] 2199021158913 none (.seq (.rg [⟨true, [], [], .det 1 (.copy 0), [21], (some 21), none⟩,
   o1 22 (.len 21),
   o1 23 (.lit [.i .i64] [.int .i64 (0)])])
 (.block 0 (.loop [⟨0, [.sl [.i .i64]], false⟩, ⟨23, [.i .i64], false⟩] 2199016982017
  (.seq (.rg [o1 24 (.data (.bin .lss) [.t 23, .t 22])])
  (.seq (.cond (.t 24)
   .skip
   (.exit 0))
  (.seq (.join [⟨0, [.sl [.i .i64]], false⟩] 1099478073857 none (.block 1 (.seq (.rg [o1 25 (.copy 23),
    o1 9 (.copy 25)])
  (.seq (.rg [⟨true, [], [], .det 1 (.copy 0), [26], (some 26), none⟩,
    o1 27 (.copy 9),
    o1 28 (.index 26 (.t 27)),
    o1 29 (.load 0 [(0, 1)] 0 (.t 28) 1 false),
    o1 30 (.copy 7),
    o1 31 (.copy 8),
    o1 32 (.data .max [.t 30, .t 31]),
    o1 33 (.data (.bin .eql) [.t 29, .t 32])])
  (.cond (.t 33)
   (.rg [⟨true, [], [], .det 1 (.copy 0), [34], (some 34), none⟩,
     o1 35 (.copy 9),
     o1 36 (.copy 7),
     o1 37 (.copy 8),
     o1 38 (.data .min [.t 36, .t 37]),
     o1 39 (.index 34 (.t 35)),
     o4 1 [0, 26, 34] (.store 0 [(0, 1)] 0 (.t 39) (.t 38))])
   .skip)))))
  (.rg [o1 40 (.data (.bin .add) [.t 23, .c (.int .i64 (1))]),
    o1 23 (.copy 40)]))))))))
 (.seq (.rg [o1 6 (.lit [.b] [.bool true])])
 .ret)))))
def s_iunion : Sig := ⟨[.mt false [.sl (.own none) [.d]], .rd false [.d], .rd false [.d]], (.one false [.d])⟩
noncomputable def E_iunion : TEnv := envOf []
noncomputable def f_iunion (n : Nat) : List (Int) × Int × Int → Option ((Bool) × List (Int)) := runFn n E_iunion c_iunion [[.sl [.i .i64]], [.i .i64], [.i .i64]] [.b] [.sl [.i .i64]] [6] (.mt 0 0 0)
noncomputable def g_iunion := f_iunion BIG
noncomputable def p_iunion : TSp := ⟨s_iunion, [[.sl [.i .i64]], [.i .i64], [.i .i64]], [.b], [.sl [.i .i64]], Ou.j (.mt 0 0 0), g_iunion⟩
theorem k_iunion : chkW PG E_iunion 141 s_iunion (c_iunion.ht 41) (.mt 0 0 0) = some (c_iunion.wc E_iunion, [6]) := by kernel_rfl
theorem ok_iunion : p_iunion.Ok PG 141 := mkOk (env_nil PG) k_iunion (by kernel_rfl)
theorem e_iunion (n : Nat) (a0 : List (Int)) (a1 : Int) (a2 : Int) : f_iunion n (a0, a1, a2) =
  bnd a0.length a1 fun n0 =>
  Option.bind a0[n0]? fun y1 =>
  bnd a0.length a2 fun n2 =>
  Option.bind a0[n2]? fun y3 =>
  bif decide (y1 = y3) then
   some (false, a0)
  else Option.bind (loopT n (X := (List (Int)) × Int) (B := (List (Int))) (fun self5 x4 =>
    bif decide (x4.2 < (a0.length : Int)) then
     Option.bind (bnd x4.1.length x4.2 fun n6 =>
      Option.bind x4.1[n6]? fun y7 =>
      bif decide (y7 = (if y3 > y1 then y3 else y1)) then
       bnd x4.1.length x4.2 fun n8 =>
       Option.bind x4.1[n8]? fun y9 =>
       some (x4.1.set n8 (if y3 < y1 then y3 else y1))
      else some x4.1 : Option ((List (Int)))) fun x10 =>
     self5 (x10, IntKind.wrap .i64 (x4.2 + (1 : Int)))
    else some x4.1) (a0, (0 : Int)) : Option ((List (Int)))) fun x11 =>
  some (true, x11) := by kernel_rfl
def c_iLabels : TC :=
 (.seq (.rg [o1 1 (.a (.t 0)),
   o1 2 (.lit [.sl [.i .i64]] [.slice none 0 0])])
 (.seq (.seq (.rg [o1 6 (.load 1 [] 0 .nil 2 false),
   o3 7 143 [.t 6],
   o1 8 (.data .not [.t 7])])
 (.cond (.t 8)
  (.seq (.rg [o1 2 (.lit [.sl [.i .i64]] [.slice none 0 0])])
  .ret)
  .skip))
 (.seq (.rg [o1 9 (.idx .nil),
   o1 10 (.load 1 [] 0 (.t 9) 1 false),
   o3 11 101 [.t 10],
   ⟨false, [], [], .det 2 (.copy 11), [3, 11], (some 3), none⟩])
 (.seq (.join [⟨3, [.sl [.i .i64]], false⟩] 67104808 none (.seq (.rg [o1 12 (.idx .nil),
   o1 13 (.load 1 [] 1 (.t 12) 1 false),
   o1 14 (.len 13),
   o1 15 (.lit [.i .i64] [.int .i64 (0)])])
 (.block 0 (.loop [⟨3, [.sl [.i .i64]], false⟩, ⟨15, [.i .i64], false⟩] 67076136
  (.seq (.rg [o1 16 (.data (.bin .lss) [.t 15, .t 14])])
  (.seq (.cond (.t 16)
   .skip
   (.exit 0))
  (.seq (.block 1 (.seq (.rg [o1 17 (.index 13 (.t 15)),
    o1 18 (.load 13 [(0, 2)] 0 (.t 17) 2 false),
    ⟨false, [], [], .det 2 (.a (.c [.i .i64, .i .i64] [.int .i64 (0), .int .i64 (0)])), [5, 1000000001], (some 5), none⟩,
    o4 1 [5] (.store 5 [] 0 .nil (.t 18))])
  (.rg [⟨true, [], [], .det 1 (.copy 3), [19], (some 19), none⟩,
    o1 20 (.idx .nil),
    o1 21 (.load 5 [] 0 (.t 20) 1 false),
    o1 22 (.idx .nil),
    o1 23 (.load 5 [] 1 (.t 22) 1 false),
    ⟨false, [], [], .call 2 141 [.t 19, .t 21, .t 23] (.mt 3 [] 0 19 0), [24, 3, 19], (some 24), none⟩])))
  (.rg [o1 25 (.data (.bin .add) [.t 15, .c (.int .i64 (1))]),
    o1 15 (.copy 25)]))))))))
 (.seq (.rg [⟨false, [], [], .det 2 (.copy 3), [26, 3], (some 26), none⟩,
   ⟨false, [], [], .det 2 (.copy 26), [2, 26], (some 2), none⟩])
 .ret)))))
def s_iLabels : Sig := ⟨[.rd true [.d, .sl (.own none) [.d, .d]]], (.one false [.sl (.own none) [.d]])⟩
noncomputable def E_iLabels : TEnv := envOf [(143, p_iGraphOk), (101, p_ifirst), (141, p_iunion)]
noncomputable def f_iLabels (n : Nat) : (Int × List (Int × Int)) → Option ((List (Int)) × Unit) := runFn n E_iLabels c_iLabels [[.i .i64, .sl [.i .i64, .i .i64]]] [.sl [.i .i64]] [] [2] .no
noncomputable def g_iLabels := f_iLabels BIG
noncomputable def p_iLabels : TSp := ⟨s_iLabels, [[.i .i64, .sl [.i .i64, .i .i64]]], [.sl [.i .i64]], [], Ou.j .no, g_iLabels⟩
theorem k_iLabels : chkW PG E_iLabels 75 s_iLabels (c_iLabels.ht 27) .no = some (c_iLabels.wc E_iLabels, [2]) := by kernel_rfl
theorem ok_iLabels : p_iLabels.Ok PG 75 := mkOk (env_cons ok_iGraphOk (env_cons ok_ifirst (env_cons ok_iunion (env_nil PG)))) k_iLabels (by kernel_rfl)
theorem e_iLabels (n : Nat) (a0 : Int × List (Int × Int)) : f_iLabels n a0 =
  Option.bind (g_iGraphOk a0) fun r0 =>
  bif !r0.1 then
   some ([], ())
  else Option.bind (g_ifirst a0.1) fun r1 =>
  Option.bind (loopT n (X := (List (Int)) × Int) (B := (List (Int))) (fun self3 x2 =>
    bif decide (x2.2 < (a0.2.length : Int)) then
     bnd a0.2.length x2.2 fun n4 =>
     Option.bind a0.2[n4]? fun y5 =>
     Option.bind (g_iunion (x2.1, y5.1, y5.2)) fun r6 =>
     self3 (r6.2, IntKind.wrap .i64 (x2.2 + (1 : Int)))
    else some x2.1) (r1.1, (0 : Int)) : Option ((List (Int)))) fun x7 =>
  some (x7, ()) := by kernel_rfl
def c_iTogether : TC :=
 (.seq (.rg [o1 3 (.a (.t 0)),
   o1 6 (.lit [.b] [.bool false])])
 (.seq (.seq (.join [⟨26, [.b], false⟩] 134217472 none (.rg [o1 8 (.load 3 [] 0 .nil 2 false),
   o3 9 143 [.t 8],
   o1 10 (.data .not [.t 9]),
   o1 11 (.copy 10),
   o2 12 (.copy 1) 3 false,
   o2 13 (.idx .nil) 3 false,
   o2 14 (.load 3 [] 0 (.t 13) 1 false) 3 false,
   o2 15 (.data (.bin .sub) [.t 14, .c (.int .i64 (1))]) 3 false,
   ⟨false, [], [], .call 1 100 [.t 12, .c [.i .i64] [.int .i64 (0)], .t 15] .no, [16], (some 16), some (3, false)⟩,
   o2 17 (.data .not [.t 16]) 3 false,
   ⟨false, [], [], .pick 11 (.c (.bool true)) (.t 17), [18], (some 18), none⟩,
   o1 19 (.copy 18),
   o2 20 (.copy 2) 11 false,
   o2 21 (.idx .nil) 11 false,
   o2 22 (.load 3 [] 0 (.t 21) 1 false) 11 false,
   o2 23 (.data (.bin .sub) [.t 22, .c (.int .i64 (1))]) 11 false,
   ⟨false, [], [], .call 1 100 [.t 20, .c [.i .i64] [.int .i64 (0)], .t 23] .no, [24], (some 24), some (11, false)⟩,
   o2 25 (.data .not [.t 24]) 11 false,
   ⟨false, [], [], .pick 19 (.c (.bool true)) (.t 25), [26], (some 26), none⟩]))
 (.cond (.t 26)
  (.seq (.rg [o1 6 (.lit [.b] [.bool false])])
  .ret)
  .skip))
 (.seq (.rg [o1 27 (.load 3 [] 0 .nil 2 false),
   o3 28 75 [.t 27],
   ⟨false, [], [], .det 2 (.copy 28), [7, 28], (some 7), none⟩])
 (.seq (.rg [⟨true, [], [], .det 1 (.copy 7), [29], (some 29), none⟩,
   o1 30 (.copy 1),
   o1 31 (.index 29 (.t 30)),
   o1 32 (.load 7 [(0, 1)] 0 (.t 31) 1 false),
   ⟨true, [], [], .det 1 (.copy 7), [33], (some 33), none⟩,
   o1 34 (.copy 2),
   o1 35 (.index 33 (.t 34)),
   o1 36 (.load 7 [(0, 1)] 0 (.t 35) 1 false),
   o1 37 (.data (.bin .eql) [.t 32, .t 36]),
   o1 6 (.copy 37)])
 .ret))))
def s_iTogether : Sig := ⟨[.rd true [.d, .sl (.own none) [.d, .d]], .rd false [.d], .rd false [.d]], (.one false [.d])⟩
noncomputable def E_iTogether : TEnv := envOf [(143, p_iGraphOk), (100, p_iin), (75, p_iLabels)]
noncomputable def f_iTogether (n : Nat) : (Int × List (Int × Int)) × Int × Int → Option ((Bool) × Unit) := runFn n E_iTogether c_iTogether [[.i .i64, .sl [.i .i64, .i .i64]], [.i .i64], [.i .i64]] [.b] [] [6] .no
noncomputable def g_iTogether := f_iTogether BIG
noncomputable def p_iTogether : TSp := ⟨s_iTogether, [[.i .i64, .sl [.i .i64, .i .i64]], [.i .i64], [.i .i64]], [.b], [], Ou.j .no, g_iTogether⟩
theorem k_iTogether : chkW PG E_iTogether 179 s_iTogether (c_iTogether.ht 38) .no = some (c_iTogether.wc E_iTogether, [6]) := by kernel_rfl
theorem ok_iTogether : p_iTogether.Ok PG 179 := mkOk (env_cons ok_iGraphOk (env_cons ok_iin (env_cons ok_iLabels (env_nil PG)))) k_iTogether (by kernel_rfl)
theorem e_iTogether (n : Nat) (a0 : Int × List (Int × Int)) (a1 : Int) (a2 : Int) : f_iTogether n (a0, a1, a2) =
  Option.bind (Option.bind (g_iGraphOk a0) fun r0 =>
   bif !r0.1 then
    some true
   else Option.bind (g_iin (a1, (0 : Int), IntKind.wrap .i64 (a0.1 - (1 : Int)))) fun r1 =>
   bif !r1.1 then
    some true
   else Option.bind (g_iin (a2, (0 : Int), IntKind.wrap .i64 (a0.1 - (1 : Int)))) fun r2 =>
   some !r2.1 : Option (Bool)) fun x3 =>
  bif x3 then
   some (false, ())
  else Option.bind (g_iLabels a0) fun r4 =>
  bnd r4.1.length a1 fun n5 =>
  Option.bind r4.1[n5]? fun y6 =>
  bnd r4.1.length a2 fun n7 =>
  Option.bind r4.1[n7]? fun y8 =>
  some (decide (y6 = y8), ()) := by kernel_rfl
def c_iyesNo : TC :=
 (.seq (.rg [o1 2 (.lit [.i .i64] [.int .i64 (0)])])
 (.seq (.seq (.rg [o1 3 (.copy 0)])
 (.cond (.t 3)
  (.seq (.rg [o1 2 (.lit [.i .i64] [.int .i64 (1)])])
  .ret)
  .skip))
 (.seq (.rg [o1 2 (.lit [.i .i64] [.int .i64 (2)])])
 .ret)))
def s_iyesNo : Sig := ⟨[.rd false [.d]], (.one false [.d])⟩
noncomputable def E_iyesNo : TEnv := envOf []
noncomputable def f_iyesNo (n : Nat) : Bool → Option ((Int) × Unit) := runFn n E_iyesNo c_iyesNo [[.b]] [.i .i64] [] [2] .no
noncomputable def g_iyesNo := f_iyesNo BIG
noncomputable def p_iyesNo : TSp := ⟨s_iyesNo, [[.b]], [.i .i64], [], Ou.j .no, g_iyesNo⟩
theorem k_iyesNo : chkW PG E_iyesNo 109 s_iyesNo (c_iyesNo.ht 4) .no = some (c_iyesNo.wc E_iyesNo, [2]) := by kernel_rfl
theorem ok_iyesNo : p_iyesNo.Ok PG 109 := mkOk (env_nil PG) k_iyesNo (by kernel_rfl)
theorem e_iyesNo (n : Nat) (a0 : Bool) : f_iyesNo n a0 =
  bif a0 then
   some ((1 : Int), ())
  else some ((2 : Int), ()) := by kernel_rfl
def c_iModel : TC :=
 (.seq (.rg [o1 2 (.a (.t 0)),
   o1 3 (.a (.t 1)),
   ⟨false, [], [], .det 2 (.a (.c [.i .i64, .sl [.i .i64, .i .i64]] [.int .i64 (0), .slice none 0 0])), [4, 1000000001], (some 4), none⟩,
   o1 5 (.lit [.i .i64] [.int .i64 (0)])])
 (.seq (.rg [⟨false, [], [1000000001], .det 1 (.idx .nil), [11], (some 11), none⟩,
   ⟨false, [], [1000000001], .det 1 (.load 2 [] 0 (.t 11) 1 false), [12], (some 12), none⟩,
   ⟨false, [], [1000000001], .det 1 (.idx .nil), [13], (some 13), none⟩,
   ⟨false, [], [1000000001], .det 1 (.load 2 [] 1 (.t 13) 1 false), [14], (some 14), none⟩,
   ⟨false, [], [1000000001], .call 1 154 [.t 14] .no, [15], (some 15), none⟩,
   ⟨false, [], [1000000001], .det 2 (.build [.i .i64, .sl [.i .i64, .i .i64]] [(0, .t 12), (1, .t 15)]), [16, 15], (some 16), none⟩,
   ⟨false, [], [], .det 2 (.a (.c [.i .i64, .sl [.i .i64, .i .i64]] [.int .i64 (0), .slice none 0 0])), [6, 1000000001], (some 6), none⟩,
   o4 2 [6, 16] (.store 6 [] 0 .nil (.t 16))])
 (.seq (.rg [o1 17 (.idx .nil),
   o1 18 (.load 2 [] 0 (.t 17) 1 false),
   o1 19 (.data (.bin .sub) [.t 18, .c (.int .i64 (1))]),
   o1 7 (.copy 19),
   o1 8 (.lit [.i .i64] [.int .i64 (0)])])
 (.seq (.join [⟨8, [.i .i64], false⟩, ⟨7, [.i .i64], false⟩] 7340416 none (.seq (.rg [o1 20 (.idx .nil),
   o1 21 (.load 3 [] 1 (.t 20) 1 false),
   o1 22 (.data (.bin .eql) [.t 21, .c (.int .i64 (4))])])
 (.cond (.t 22)
  (.rg [o1 8 (.lit [.i .i64] [.int .i64 (1)]),
    o1 7 (.lit [.i .i64] [.int .i64 (3)])])
  .skip)))
 (.seq (.seq (.join [⟨65, [.b], false⟩] 73786976294829817856 none (.rg [o1 23 (.idx .nil),
   o1 24 (.load 2 [] 0 (.t 23) 1 false),
   o1 25 (.data (.bin .lss) [.t 24, .c (.int .i64 (1))]),
   o1 26 (.copy 25),
   o2 27 (.idx .nil) 3 false,
   o2 28 (.load 3 [] 1 (.t 27) 1 false) 3 false,
   ⟨false, [], [], .call 1 100 [.t 28, .c [.i .i64] [.int .i64 (1)], .c [.i .i64] [.int .i64 (4)]] .no, [29], (some 29), some (3, false)⟩,
   o2 30 (.data .not [.t 29]) 3 false,
   ⟨false, [], [], .pick 26 (.c (.bool true)) (.t 30), [31], (some 31), none⟩,
   o1 32 (.copy 31),
   o2 33 (.idx .nil) 9 false,
   o2 34 (.load 3 [] 2 (.t 33) 1 false) 9 false,
   o2 35 (.idx .nil) 9 false,
   o2 36 (.load 2 [] 0 (.t 35) 1 false) 9 false,
   o2 37 (.data (.bin .sub) [.t 36, .c (.int .i64 (1))]) 9 false,
   ⟨false, [], [], .call 1 100 [.t 34, .c [.i .i64] [.int .i64 (0)], .t 37] .no, [38], (some 38), some (9, false)⟩,
   o2 39 (.data .not [.t 38]) 9 false,
   ⟨false, [], [], .pick 32 (.c (.bool true)) (.t 39), [40], (some 40), none⟩,
   o1 41 (.copy 40),
   o2 42 (.idx .nil) 18 false,
   o2 43 (.load 3 [] 3 (.t 42) 1 false) 18 false,
   o2 44 (.copy 8) 18 false,
   o2 45 (.copy 7) 18 false,
   ⟨false, [], [], .call 1 100 [.t 43, .t 44, .t 45] .no, [46], (some 46), some (18, false)⟩,
   o2 47 (.data .not [.t 46]) 18 false,
   ⟨false, [], [], .pick 41 (.c (.bool true)) (.t 47), [48], (some 48), none⟩,
   o1 49 (.copy 48),
   o2 50 (.idx .nil) 26 false,
   o2 51 (.load 3 [] 2 (.t 50) 1 false) 26 false,
   o2 52 (.idx .nil) 26 false,
   o2 53 (.load 3 [] 3 (.t 52) 1 false) 26 false,
   o2 54 (.data (.bin .eql) [.t 51, .t 53]) 26 false,
   o2 55 (.copy 54) 26 false,
   o2 56 (.idx .nil) 32 true,
   o2 57 (.load 3 [] 1 (.t 56) 1 false) 32 true,
   o2 58 (.data (.bin .eql) [.t 57, .c (.int .i64 (1))]) 32 true,
   o2 59 (.copy 58) 32 true,
   o2 60 (.idx .nil) 36 false,
   o2 61 (.load 3 [] 1 (.t 60) 1 false) 36 false,
   o2 62 (.data (.bin .eql) [.t 61, .c (.int .i64 (2))]) 36 false,
   ⟨false, [], [], .pick 59 (.c (.bool true)) (.t 62), [63], (some 63), some (32, true)⟩,
   ⟨false, [], [], .pick 55 (.t 63) (.c (.bool false)), [64], (some 64), some (26, false)⟩,
   ⟨false, [], [], .pick 49 (.c (.bool true)) (.t 64), [65], (some 65), none⟩]))
 (.cond (.t 65)
  (.seq (.rg [o1 66 (.load 6 [] 0 .nil 2 true),
    ⟨false, [66], [], .det 2 (.store 4 [] 0 .nil (.t 66)), [4, 66, 66, 6], none, none⟩,
    o1 5 (.lit [.i .i64] [.int .i64 (3)])])
  .ret)
  .skip))
 (.seq (.rg [o1 67 (.load 6 [] 0 .nil 2 true),
   ⟨false, [], [], .det 2 (.a (.c [.i .i64, .sl [.i .i64, .i .i64]] [.int .i64 (0), .slice none 0 0])), [9, 1000000001], (some 9), none⟩,
   o4 1 [9] (.store 9 [] 0 .nil (.t 67)),
   o1 10 (.lit [.b] [.bool false])])
 (.seq (.join [⟨9, [.i .i64, .sl [.i .i64, .i .i64]], false⟩, ⟨10, [.b], false⟩, ⟨4, [.i .i64, .sl [.i .i64, .i .i64]], false⟩, ⟨6, [.i .i64, .sl [.i .i64, .i .i64]], false⟩] 633825299966540748158675191408 (some [⟨4, [.i .i64, .sl [.i .i64, .i .i64]], false⟩, ⟨5, [.i .i64], false⟩]) (.seq (.rg [o1 68 (.idx .nil),
   o1 69 (.load 3 [] 1 (.t 68) 1 false)])
 (.block 0 (.seq (.rg [o1 72 (.data (.bin .eql) [.t 69, .c (.int .i64 (1))]),
   o1 71 (.copy 72)])
 (.cond (.t 71)
  (.rg [o1 74 (.load 2 [] 0 .nil 2 false),
    o1 75 (.load 3 [] 0 .nil 4 false),
    o3 76 177 [.t 75],
    o3 77 176 [.t 74, .t 76],
    ⟨false, [], [], .det 2 (.copy 77), [73, 77], (some 73), none⟩,
    ⟨false, [], [], .det 2 (.ext 73 0 2), [78, 73], (some 78), none⟩,
    o1 79 (.ext 73 2 1),
    o4 2 [9, 78] (.store 9 [] 0 .nil (.t 78)),
    o1 10 (.copy 79)])
  (.seq (.rg [o1 81 (.data (.bin .eql) [.t 69, .c (.int .i64 (2))]),
    o1 80 (.copy 81)])
  (.cond (.t 80)
   (.rg [o1 83 (.load 2 [] 0 .nil 2 false),
     o1 84 (.load 3 [] 0 .nil 4 false),
     o3 85 177 [.t 84],
     o3 86 178 [.t 83, .t 85],
     ⟨false, [], [], .det 2 (.copy 86), [82, 86], (some 82), none⟩,
     ⟨false, [], [], .det 2 (.ext 82 0 2), [87, 82], (some 87), none⟩,
     o1 88 (.ext 82 2 1),
     o4 2 [9, 87] (.store 9 [] 0 .nil (.t 87)),
     o1 10 (.copy 88)])
   (.seq (.rg [o1 90 (.data (.bin .eql) [.t 69, .c (.int .i64 (3))]),
     o1 89 (.copy 90)])
   (.cond (.t 89)
    (.seq (.rg [o1 91 (.load 6 [] 0 .nil 2 true),
      o1 92 (.load 2 [] 0 .nil 2 false),
      o1 93 (.idx .nil),
      o1 94 (.load 3 [] 2 (.t 93) 1 false),
      o1 95 (.idx .nil),
      o1 96 (.load 3 [] 3 (.t 95) 1 false),
      o3 97 179 [.t 92, .t 94, .t 96],
      o3 98 109 [.t 97],
      ⟨false, [91], [], .det 2 (.store 4 [] 0 .nil (.t 91)), [4, 91, 91, 6, 9, 67], none, none⟩,
      o1 5 (.copy 98)])
    .ret)
    (.seq (.rg [o1 70 (.load 6 [] 0 .nil 2 true),
      ⟨false, [70], [], .det 2 (.store 4 [] 0 .nil (.t 70)), [4, 70, 70, 6, 9, 67], none, none⟩,
      o1 5 (.lit [.i .i64] [.int .i64 (1)])])
    .ret))))))))))
 (.seq (.seq (.rg [o1 99 (.copy 10),
   o1 100 (.data .not [.t 99])])
 (.cond (.t 100)
  (.seq (.rg [o1 101 (.load 6 [] 0 .nil 2 true),
    ⟨false, [101], [], .det 2 (.store 4 [] 0 .nil (.t 101)), [4, 101, 101, 6, 67], none, none⟩,
    o1 5 (.lit [.i .i64] [.int .i64 (2)])])
  .ret)
  .skip))
 (.seq (.rg [o1 102 (.load 9 [] 0 .nil 2 true),
   ⟨false, [102], [], .det 2 (.store 4 [] 0 .nil (.t 102)), [4, 102, 102, 9], none, none⟩,
   o1 5 (.lit [.i .i64] [.int .i64 (1)])])
 .ret)))))))))
def s_iModel : Sig := ⟨[.rd true [.d, .sl (.own none) [.d, .d]], .rd true [.d, .d, .d, .d]], (.tup [(true, 2), (false, 1)] [.d, .sl (.own none) [.d, .d], .d])⟩
noncomputable def E_iModel : TEnv := envOf [(154, p_icopyEdges), (100, p_iin), (177, p_iedgeOf), (176, p_iAddEdge), (178, p_iTakeEdge), (179, p_iTogether), (109, p_iyesNo)]
noncomputable def f_iModel (n : Nat) : (Int × List (Int × Int)) × (Int × Int × Int × Int) → Option ((Int × List (Int × Int) × Int) × Unit) := runFn n E_iModel c_iModel [[.i .i64, .sl [.i .i64, .i .i64]], [.i .i64, .i .i64, .i .i64, .i .i64]] [.i .i64, .sl [.i .i64, .i .i64], .i .i64] [] [4, 5] .no
noncomputable def g_iModel := f_iModel BIG
noncomputable def p_iModel : TSp := ⟨s_iModel, [[.i .i64, .sl [.i .i64, .i .i64]], [.i .i64, .i .i64, .i .i64, .i .i64]], [.i .i64, .sl [.i .i64, .i .i64], .i .i64], [], Ou.j .no, g_iModel⟩
theorem k_iModel : chkW PG E_iModel 137 s_iModel (c_iModel.ht 103) .no = some (c_iModel.wc E_iModel, [4, 5]) := by kernel_rfl
theorem ok_iModel : p_iModel.Ok PG 137 := mkOk (env_cons ok_icopyEdges (env_cons ok_iin (env_cons ok_iedgeOf (env_cons ok_iAddEdge (env_cons ok_iTakeEdge (env_cons ok_iTogether (env_cons ok_iyesNo (env_nil PG)))))))) k_iModel (by kernel_rfl)
theorem e_iModel (n : Nat) (a0 : Int × List (Int × Int)) (a1 : Int × Int × Int × Int) : f_iModel n (a0, a1) =
  Option.bind (g_icopyEdges a0.2) fun r0 =>
  Option.bind (bif decide (a1.2.1 = (4 : Int)) then
    some ((1 : Int), (3 : Int))
   else some ((0 : Int), IntKind.wrap .i64 (a0.1 - (1 : Int))) : Option (Int × Int)) fun x1 =>
  Option.bind (bif decide (a0.1 < (1 : Int)) then
    some true
   else Option.bind (g_iin (a1.2.1, (1 : Int), (4 : Int))) fun r2 =>
   bif !r2.1 then
    some true
   else Option.bind (g_iin (a1.2.2.1, (0 : Int), IntKind.wrap .i64 (a0.1 - (1 : Int)))) fun r3 =>
   bif !r3.1 then
    some true
   else Option.bind (g_iin (a1.2.2.2, x1.1, x1.2)) fun r4 =>
   bif !r4.1 then
    some true
   else bif decide (a1.2.2.1 = a1.2.2.2) then
    bif decide (a1.2.1 = (1 : Int)) then
     some true
    else some (decide (a1.2.1 = (2 : Int)))
   else some false : Option (Bool)) fun x5 =>
  bif x5 then
   some ((a0.1, r0.1, (3 : Int)), ())
  else Option.bind (bif decide (a1.2.1 = (1 : Int)) then
    Option.bind (g_iedgeOf a1) fun r6 =>
    Option.bind (g_iAddEdge (a0, r6.1)) fun r7 =>
    some (Sum.inl ((r7.1.1, r7.1.2.1), r7.1.2.2, ((0 : Int), []), (a0.1, r0.1)))
   else bif decide (a1.2.1 = (2 : Int)) then
    Option.bind (g_iedgeOf a1) fun r8 =>
    Option.bind (g_iTakeEdge (a0, r8.1)) fun r9 =>
    some (Sum.inl ((r9.1.1, r9.1.2.1), r9.1.2.2, ((0 : Int), []), (a0.1, r0.1)))
   else bif decide (a1.2.1 = (3 : Int)) then
    Option.bind (g_iTogether (a0, a1.2.2.1, a1.2.2.2)) fun r10 =>
    Option.bind (g_iyesNo r10.1) fun r11 =>
    some (Sum.inr ((a0.1, r0.1), r11.1))
   else some (Sum.inr ((a0.1, r0.1), (1 : Int))) : Option (((Int × List (Int × Int)) × Bool × (Int × List (Int × Int)) × (Int × List (Int × Int))) ⊕ ((Int × List (Int × Int)) × Int))) fun y => match y with
  | .inl x12 =>
   bif !x12.2.1 then
    some ((x12.2.2.2.1, x12.2.2.2.2, (2 : Int)), ())
   else some ((x12.1.1, x12.1.2, (1 : Int)), ())
  | .inr x12 =>
   some ((x12.1.1, x12.1.2, x12.2), ()) := by kernel_rfl
def c_imade : TC :=
 (.seq (.rg [⟨false, [], [], .det 2 (.a (.c [.i .i64, .sl [.i .i64, .i .i64]] [.int .i64 (0), .slice none 0 0])), [4, 1000000001], (some 4), none⟩,
   o1 5 (.lit [.b] [.bool false])])
 (.seq (.rg [o1 12 (.copy 0),
   o1 13 (.build [.i .i64, .sl [.i .i64, .i .i64]] [(0, .t 12)]),
   ⟨false, [], [], .det 2 (.a (.c [.i .i64, .sl [.i .i64, .i .i64]] [.int .i64 (0), .slice none 0 0])), [6, 1000000001], (some 6), none⟩,
   o4 2 [6, 13] (.store 6 [] 0 .nil (.t 13))])
 (.seq (.rg [o1 7 (.lit [.b] [.bool true])])
 (.seq (.join [⟨7, [.b], false⟩, ⟨6, [.i .i64, .sl [.i .i64, .i .i64]], false⟩] 35184372076224 none (.seq (.rg [o1 14 (.copy 1),
   o1 15 (.len 14),
   o1 16 (.lit [.i .i64] [.int .i64 (0)])])
 (.block 0 (.loop [⟨7, [.b], false⟩, ⟨6, [.i .i64, .sl [.i .i64, .i .i64]], false⟩, ⟨16, [.i .i64], false⟩] 35184372027072
  (.seq (.rg [o1 17 (.data (.bin .lss) [.t 16, .t 15])])
  (.seq (.cond (.t 17)
   .skip
   (.exit 0))
  (.seq (.join [⟨7, [.b], false⟩, ⟨6, [.i .i64, .sl [.i .i64, .i .i64]], false⟩] 17592185786048 none (.block 1 (.seq (.rg [o1 18 (.index 14 (.t 16)),
    o1 19 (.load 14 [(0, 6)] 0 (.t 18) 6 false),
    ⟨false, [], [], .det 2 (.a (.c [.i .i64, .i .i64, .i .i64, .i .i64, .i .i64, .i .i64] [.int .i64 (0), .int .i64 (0), .int .i64 (0), .int .i64 (0), .int .i64 (0), .int .i64 (0)])), [9, 1000000001], (some 9), none⟩,
    o4 1 [9] (.store 9 [] 0 .nil (.t 19))])
  (.seq (.seq (.rg [o1 20 (.idx .nil),
    o1 21 (.load 9 [] 5 (.t 20) 1 false),
    o1 22 (.data (.bin .eql) [.t 21, .c (.int .i64 (3))])])
  (.cond (.t 22)
   (.exit 1)
   .skip))
  (.seq (.rg [o1 24 (.load 6 [] 0 .nil 2 true),
    o1 25 (.idx .nil),
    o1 26 (.load 9 [] 1 (.t 25) 4 false),
    o3 27 137 [.t 24, .t 26],
    ⟨false, [], [], .det 2 (.copy 27), [23, 27], (some 23), none⟩,
    ⟨false, [], [], .det 2 (.ext 23 0 2), [28, 23], (some 28), none⟩,
    o1 29 (.ext 23 2 1),
    ⟨false, [], [], .det 2 (.a (.c [.i .i64, .sl [.i .i64, .i .i64]] [.int .i64 (0), .slice none 0 0])), [10, 1000000001], (some 10), none⟩,
    o4 2 [10, 28] (.store 10 [] 0 .nil (.t 28)),
    o1 11 (.copy 29)])
  (.seq (.join [⟨7, [.b], false⟩] 8795019280512 none (.rg [o1 30 (.copy 7),
    o1 31 (.copy 30),
    o2 32 (.copy 11) 1 true,
    o2 33 (.idx .nil) 1 true,
    o2 34 (.load 9 [] 5 (.t 33) 1 false) 1 true,
    o2 35 (.data (.bin .eql) [.t 32, .t 34]) 1 true,
    o2 36 (.copy 35) 1 true,
    o2 37 (.idx .nil) 6 false,
    o2 38 (.idx (.t 37)) 6 false,
    o2 39 (.load 9 [] 2 (.t 38) 1 false) 6 false,
    o2 40 (.data (.bin .eql) [.t 39, .c (.int .i64 (4))]) 6 false,
    ⟨false, [], [], .pick 36 (.c (.bool true)) (.t 40), [41], (some 41), some (1, true)⟩,
    ⟨false, [], [], .pick 31 (.t 41) (.c (.bool false)), [42], (some 42), none⟩,
    o1 7 (.copy 42)]))
  (.rg [o1 43 (.load 10 [] 0 .nil 2 true),
    ⟨false, [43], [], .det 2 (.store 6 [] 0 .nil (.t 43)), [6, 43, 43, 10, 24], none, none⟩])))))))
  (.rg [o1 44 (.data (.bin .add) [.t 16, .c (.int .i64 (1))]),
    o1 16 (.copy 44)]))))))))
 (.seq (.rg [o1 45 (.load 6 [] 0 .nil 2 true),
   o1 46 (.copy 7),
   ⟨false, [45], [], .det 2 (.store 4 [] 0 .nil (.t 45)), [4, 45, 45, 6], none, none⟩,
   o1 5 (.copy 46)])
 .ret)))))
def s_imade : Sig := ⟨[.rd false [.d], .rd false [.sl (.own none) [.d, .d, .d, .d, .d, .d]]], (.tup [(true, 2), (false, 1)] [.d, .sl (.own none) [.d, .d], .d])⟩
noncomputable def E_imade : TEnv := envOf [(137, p_iModel)]
noncomputable def f_imade (n : Nat) : Int × (List (Int × Int × Int × Int × Int × Int)) → Option ((Int × List (Int × Int) × Bool) × Unit) := runFn n E_imade c_imade [[.i .i64], [.sl [.i .i64, .i .i64, .i .i64, .i .i64, .i .i64, .i .i64]]] [.i .i64, .sl [.i .i64, .i .i64], .b] [] [4, 5] .no
noncomputable def g_imade := f_imade BIG
noncomputable def p_imade : TSp := ⟨s_imade, [[.i .i64], [.sl [.i .i64, .i .i64, .i .i64, .i .i64, .i .i64, .i .i64]]], [.i .i64, .sl [.i .i64, .i .i64], .b], [], Ou.j .no, g_imade⟩
theorem k_imade : chkW PG E_imade 69 s_imade (c_imade.ht 47) .no = some (c_imade.wc E_imade, [4, 5]) := by kernel_rfl
theorem ok_imade : p_imade.Ok PG 69 := mkOk (env_cons ok_iModel (env_nil PG)) k_imade (by kernel_rfl)
theorem e_imade (n : Nat) (a0 : Int) (a1 : List (Int × Int × Int × Int × Int × Int)) : f_imade n (a0, a1) =
  Option.bind (loopT n (X := Bool × (Int × List (Int × Int)) × Int) (B := Bool × (Int × List (Int × Int))) (fun self1 x0 =>
    bif decide (x0.2.2 < (a1.length : Int)) then
     Option.bind (bnd a1.length x0.2.2 fun n2 =>
      Option.bind a1[n2]? fun y3 =>
      bif decide (y3.2.2.2.2.2 = (3 : Int)) then
       some (x0.1, x0.2.1)
      else Option.bind (g_iModel (x0.2.1, (y3.2.1, y3.2.2.1, y3.2.2.2.1, y3.2.2.2.2.1))) fun r4 =>
      Option.bind (bif x0.1 then
        bif decide (r4.1.2.2 = y3.2.2.2.2.2) then
         some true
        else some (decide (y3.2.2.1 = (4 : Int)))
       else some false : Option (Bool)) fun x5 =>
      some (x5, (r4.1.1, r4.1.2.1)) : Option (Bool × (Int × List (Int × Int)))) fun x6 =>
     self1 (x6.1, x6.2, IntKind.wrap .i64 (x0.2.2 + (1 : Int)))
    else some (x0.1, x0.2.1)) (true, (a0, []), (0 : Int)) : Option (Bool × (Int × List (Int × Int)))) fun x7 =>
  some ((x7.2.1, x7.2.2, x7.1), ()) := by kernel_rfl
def c_iGraphOf : TC :=
 (.seq (.rg [o1 1 (.a (.t 0)),
   ⟨false, [], [], .det 2 (.a (.c [.i .i64, .sl [.i .i64, .i .i64]] [.int .i64 (0), .slice none 0 0])), [2, 1000000001], (some 2), none⟩])
 (.seq (.rg [o1 6 (.idx .nil),
   o1 7 (.load 1 [] 0 (.t 6) 1 false),
   o1 8 (.build [.i .i64, .sl [.i .i64, .i .i64]] [(0, .t 7)]),
   ⟨false, [], [], .det 2 (.a (.c [.i .i64, .sl [.i .i64, .i .i64]] [.int .i64 (0), .slice none 0 0])), [3, 1000000001], (some 3), none⟩,
   o4 2 [3, 8] (.store 3 [] 0 .nil (.t 8))])
 (.seq (.join [⟨3, [.i .i64, .sl [.i .i64, .i .i64]], false⟩] 134217256 none (.seq (.rg [o1 9 (.idx .nil),
   o1 10 (.load 1 [] 1 (.t 9) 1 false),
   o1 11 (.len 10),
   o1 12 (.lit [.i .i64] [.int .i64 (0)])])
 (.block 0 (.loop [⟨3, [.i .i64, .sl [.i .i64, .i .i64]], false⟩, ⟨12, [.i .i64], false⟩] 134213672
  (.seq (.rg [o1 13 (.data (.bin .lss) [.t 12, .t 11])])
  (.seq (.cond (.t 13)
   .skip
   (.exit 0))
  (.seq (.block 1 (.seq (.rg [o1 14 (.index 10 (.t 12)),
    o1 15 (.load 10 [(0, 4)] 0 (.t 14) 4 false),
    ⟨false, [], [], .det 2 (.a (.c [.i .i64, .i .i64, .i .i64, .b] [.int .i64 (0), .int .i64 (0), .int .i64 (0), .bool false])), [5, 1000000001], (some 5), none⟩,
    o4 1 [5] (.store 5 [] 0 .nil (.t 15))])
  (.rg [o1 16 (.idx .nil),
    o1 17 (.load 3 [] 1 (.t 16) 1 true),
    o1 18 (.idx .nil),
    o1 19 (.load 5 [] 0 (.t 18) 1 false),
    o1 20 (.idx .nil),
    o1 21 (.load 5 [] 1 (.t 20) 1 false),
    o1 22 (.build [.i .i64, .i .i64] [(0, .t 19), (1, .t 21)]),
    o1 23 (.sli [.i .i64, .i .i64] [.t 22]),
    ⟨false, [17], [], .det 2 (.app (some 17) 23), [24, 17, 17, 3], (some 24), none⟩,
    o1 25 (.idx .nil),
    o4 2 [3, 24, 17] (.store 3 [] 1 (.t 25) (.t 24))])))
  (.rg [o1 26 (.data (.bin .add) [.t 12, .c (.int .i64 (1))]),
    o1 12 (.copy 26)]))))))))
 (.seq (.rg [o1 27 (.load 3 [] 0 .nil 2 true),
   ⟨false, [27], [], .det 2 (.store 2 [] 0 .nil (.t 27)), [2, 27, 27, 3], none, none⟩])
 .ret))))
def s_iGraphOf : Sig := ⟨[.rd true [.d, .sl (.own none) [.d, .d, .d, .d]]], (.one true [.d, .sl (.own none) [.d, .d]])⟩
noncomputable def E_iGraphOf : TEnv := envOf []
noncomputable def f_iGraphOf (n : Nat) : (Int × List (Int × Int × Int × Bool)) → Option ((Int × List (Int × Int)) × Unit) := runFn n E_iGraphOf c_iGraphOf [[.i .i64, .sl [.i .i64, .i .i64, .i .i64, .b]]] [.i .i64, .sl [.i .i64, .i .i64]] [] [2] .no
noncomputable def g_iGraphOf := f_iGraphOf BIG
noncomputable def p_iGraphOf : TSp := ⟨s_iGraphOf, [[.i .i64, .sl [.i .i64, .i .i64, .i .i64, .b]]], [.i .i64, .sl [.i .i64, .i .i64]], [], Ou.j .no, g_iGraphOf⟩
theorem k_iGraphOf : chkW PG E_iGraphOf 181 s_iGraphOf (c_iGraphOf.ht 28) .no = some (c_iGraphOf.wc E_iGraphOf, [2]) := by kernel_rfl
theorem ok_iGraphOf : p_iGraphOf.Ok PG 181 := mkOk (env_nil PG) k_iGraphOf (by kernel_rfl)
theorem e_iGraphOf (n : Nat) (a0 : Int × List (Int × Int × Int × Bool)) : f_iGraphOf n a0 =
  Option.bind (loopT n (X := (Int × List (Int × Int)) × Int) (B := (Int × List (Int × Int))) (fun self1 x0 =>
    bif decide (x0.2 < (a0.2.length : Int)) then
     bnd a0.2.length x0.2 fun n2 =>
     Option.bind a0.2[n2]? fun y3 =>
     bif decide (x0.1.2.length + ([(y3.1, y3.2.1)]).length ≤ 4294967296) then
      self1 ((x0.1.1, x0.1.2 ++ ([(y3.1, y3.2.1)])), IntKind.wrap .i64 (x0.2 + (1 : Int)))
     else none
    else some x0.1) ((a0.1, []), (0 : Int)) : Option ((Int × List (Int × Int)))) fun x4 =>
  some (x4, ()) := by kernel_rfl
def c_iOwned : TC :=
 (.seq (.rg [o1 1 (.a (.t 0)),
   o1 2 (.lit [.sl [.i .i64, .i .i64]] [.slice none 0 0])])
 (.seq (.rg [o1 3 (.idx .nil),
   o1 4 (.load 1 [] 1 (.t 3) 2 false),
   o3 5 181 [.t 4],
   ⟨false, [], [], .det 2 (.ext 5 1 1), [6, 5], (some 6), none⟩,
   ⟨false, [], [], .det 2 (.copy 6), [2, 6], (some 2), none⟩])
 .ret))
def s_iOwned : Sig := ⟨[.rd true [.d, .d, .sl (.own none) [.d, .d, .d, .d], .d, .d, .sl (.own none) [.d, .d], .sl (.own none) [.d]]], (.one false [.sl (.own none) [.d, .d]])⟩
noncomputable def E_iOwned : TEnv := envOf [(181, p_iGraphOf)]
noncomputable def f_iOwned (n : Nat) : (Int × Int × List (Int × Int × Int × Bool) × Int × Bool × List (Int × Int) × List (Int)) → Option ((List (Int × Int)) × Unit) := runFn n E_iOwned c_iOwned [[.i .i64, .i .i64, .sl [.i .i64, .i .i64, .i .i64, .b], .i .i64, .b, .sl [.i .i64, .i .i64], .sl [.i .i64]]] [.sl [.i .i64, .i .i64]] [] [2] .no
noncomputable def g_iOwned := f_iOwned BIG
noncomputable def p_iOwned : TSp := ⟨s_iOwned, [[.i .i64, .i .i64, .sl [.i .i64, .i .i64, .i .i64, .b], .i .i64, .b, .sl [.i .i64, .i .i64], .sl [.i .i64]]], [.sl [.i .i64, .i .i64]], [], Ou.j .no, g_iOwned⟩
theorem k_iOwned : chkW PG E_iOwned 140 s_iOwned (c_iOwned.ht 7) .no = some (c_iOwned.wc E_iOwned, [2]) := by kernel_rfl
theorem ok_iOwned : p_iOwned.Ok PG 140 := mkOk (env_cons ok_iGraphOf (env_nil PG)) k_iOwned (by kernel_rfl)
theorem e_iOwned (n : Nat) (a0 : Int × Int × List (Int × Int × Int × Bool) × Int × Bool × List (Int × Int) × List (Int)) : f_iOwned n a0 =
  Option.bind (g_iGraphOf (a0.2.1, a0.2.2.1)) fun r0 =>
  some (r0.1.2, ()) := by kernel_rfl
def c_iwebs : TC :=
 (.seq (.rg [o1 1 (.a (.t 0)),
   o1 2 (.lit [.sl [.sl [.i .i64, .i .i64]]] [.slice none 0 0])])
 (.seq (.rg [o1 3 (.lit [.sl [.sl [.i .i64, .i .i64]]] [.slice none 0 0])])
 (.seq (.join [⟨3, [.sl [.sl [.i .i64, .i .i64]]], false⟩] 524264 none (.seq (.rg [o1 6 (.idx .nil),
   o1 7 (.load 1 [] 16 (.t 6) 1 false),
   o1 8 (.len 7),
   o1 9 (.lit [.i .i64] [.int .i64 (0)])])
 (.block 0 (.loop [⟨3, [.sl [.sl [.i .i64, .i .i64]]], false⟩, ⟨9, [.i .i64], false⟩] 523816
  (.seq (.rg [o1 10 (.data (.bin .lss) [.t 9, .t 8])])
  (.seq (.cond (.t 10)
   .skip
   (.exit 0))
  (.seq (.block 1 (.seq (.rg [o1 11 (.index 7 (.t 9)),
    o1 12 (.load 7 [(0, 7)] 0 (.t 11) 7 false),
    ⟨false, [], [], .det 2 (.a (.c [.i .i64, .i .i64, .sl [.i .i64, .i .i64, .i .i64, .b], .i .i64, .b, .sl [.i .i64, .i .i64], .sl [.i .i64]] [.int .i64 (0), .int .i64 (0), .slice none 0 0, .int .i64 (0), .bool false, .slice none 0 0, .slice none 0 0])), [5, 1000000001], (some 5), none⟩,
    o4 1 [5] (.store 5 [] 0 .nil (.t 12))])
  (.rg [⟨false, [], [], .det 2 (.copy 3), [13, 3], (some 13), none⟩,
    o1 14 (.load 5 [] 0 .nil 7 false),
    o3 15 140 [.t 14],
    ⟨false, [], [], .det 2 (.sli [.sl [.i .i64, .i .i64]] [.t 15]), [16, 15], (some 16), none⟩,
    ⟨false, [], [], .det 3 (.app (some 13) 16), [17, 13, 16], (some 17), none⟩,
    ⟨false, [], [], .det 2 (.copy 17), [3, 17], (some 3), none⟩])))
  (.rg [o1 18 (.data (.bin .add) [.t 9, .c (.int .i64 (1))]),
    o1 9 (.copy 18)]))))))))
 (.seq (.rg [⟨false, [], [], .det 2 (.copy 3), [19, 3], (some 19), none⟩,
   ⟨false, [], [], .det 2 (.copy 19), [2, 19], (some 2), none⟩])
 .ret))))
def s_iwebs : Sig := ⟨[.rd true [.d, .d, .sl (.own none) [.d], .sl (.own none) [.d, .d], .sl (.own none) [.sl (.own none) [.d]], .sl (.own none) [.d], .d, .d, .d, .d, .d, .d, .d, .sl (.own none) [.d, .d], .d, .sl (.own none) [.d, .d, .d, .d, .d, .d], .sl (.own none) [.d, .d, .sl (.own none) [.d, .d, .d, .d], .d, .d, .sl (.own none) [.d, .d], .sl (.own none) [.d]], .sl (.own none) [.sl (.own none) [.d, .d, .d]], .sl (.own none) [.d], .sl (.own none) [.d, .d, .d], .sl (.own none) [.d, .d, .d, .d, .d, .d, .d], .sl (.own none) [.d, .d, .d, .d, .d, .d, .d, .d, .sl (.own none) [.d, .d], .sl (.own none) [.d], .d, .d, .sl (.own none) [.d, .d], .d]]], (.one false [.sl (.own none) [.sl (.own none) [.d, .d]]])⟩
noncomputable def E_iwebs : TEnv := envOf [(140, p_iOwned)]
noncomputable def f_iwebs (n : Nat) : (Int × Int × List (Int) × List (Int × Int) × List (List (Int)) × List (Int) × Int × Int × Int × Int × Int × Int × Int × List (Int × Int) × Int × List (Int × Int × Int × Int × Int × Int) × List (Int × Int × List (Int × Int × Int × Bool) × Int × Bool × List (Int × Int) × List (Int)) × List (List (ByteArray × ByteArray × Int)) × List (Bool) × List (Int × Int × ByteArray) × List (Int × Int × Int × Int × Int × Int × Int) × List (Int × Int × Int × Int × Int × Int × Int × Bool × List (Int × Int) × List (Int) × Int × Int × List (Int × Int) × Int)) → Option ((List (List (Int × Int))) × Unit) := runFn n E_iwebs c_iwebs [[.i .i64, .i .i64, .sl [.i .i64], .sl [.i .i64, .i .i64], .sl [.sl [.i .i64]], .sl [.i .i64], .i .i64, .i .i64, .i .i64, .i .i64, .i .i64, .i .i64, .i .i64, .sl [.i .i64, .i .i64], .i .i64, .sl [.i .i64, .i .i64, .i .i64, .i .i64, .i .i64, .i .i64], .sl [.i .i64, .i .i64, .sl [.i .i64, .i .i64, .i .i64, .b], .i .i64, .b, .sl [.i .i64, .i .i64], .sl [.i .i64]], .sl [.sl [.s, .s, .i .i64]], .sl [.b], .sl [.i .i64, .i .i64, .s], .sl [.i .i64, .i .i64, .i .i64, .i .i64, .i .i64, .i .i64, .i .i64], .sl [.i .i64, .i .i64, .i .i64, .i .i64, .i .i64, .i .i64, .i .i64, .b, .sl [.i .i64, .i .i64], .sl [.i .i64], .i .i64, .i .i64, .sl [.i .i64, .i .i64], .i .i64]]] [.sl [.sl [.i .i64, .i .i64]]] [] [2] .no
noncomputable def g_iwebs := f_iwebs BIG
noncomputable def p_iwebs : TSp := ⟨s_iwebs, [[.i .i64, .i .i64, .sl [.i .i64], .sl [.i .i64, .i .i64], .sl [.sl [.i .i64]], .sl [.i .i64], .i .i64, .i .i64, .i .i64, .i .i64, .i .i64, .i .i64, .i .i64, .sl [.i .i64, .i .i64], .i .i64, .sl [.i .i64, .i .i64, .i .i64, .i .i64, .i .i64, .i .i64], .sl [.i .i64, .i .i64, .sl [.i .i64, .i .i64, .i .i64, .b], .i .i64, .b, .sl [.i .i64, .i .i64], .sl [.i .i64]], .sl [.sl [.s, .s, .i .i64]], .sl [.b], .sl [.i .i64, .i .i64, .s], .sl [.i .i64, .i .i64, .i .i64, .i .i64, .i .i64, .i .i64, .i .i64], .sl [.i .i64, .i .i64, .i .i64, .i .i64, .i .i64, .i .i64, .i .i64, .b, .sl [.i .i64, .i .i64], .sl [.i .i64], .i .i64, .i .i64, .sl [.i .i64, .i .i64], .i .i64]]], [.sl [.sl [.i .i64, .i .i64]]], [], Ou.j .no, g_iwebs⟩
theorem k_iwebs : chkW PG E_iwebs 71 s_iwebs (c_iwebs.ht 20) .no = some (c_iwebs.wc E_iwebs, [2]) := by kernel_rfl
theorem ok_iwebs : p_iwebs.Ok PG 71 := mkOk (env_cons ok_iOwned (env_nil PG)) k_iwebs (by kernel_rfl)
theorem e_iwebs (n : Nat) (a0 : Int × Int × List (Int) × List (Int × Int) × List ((List (Int))) × List (Int) × Int × Int × Int × Int × Int × Int × Int × List (Int × Int) × Int × List (Int × Int × Int × Int × Int × Int) × List (Int × Int × (List (Int × Int × Int × Bool)) × Int × Bool × (List (Int × Int)) × (List (Int))) × List ((List (ByteArray × ByteArray × Int))) × List (Bool) × List (Int × Int × ByteArray) × List (Int × Int × Int × Int × Int × Int × Int) × List (Int × Int × Int × Int × Int × Int × Int × Bool × (List (Int × Int)) × (List (Int)) × Int × Int × (List (Int × Int)) × Int)) : f_iwebs n a0 =
  Option.bind (loopT n (X := (List ((List (Int × Int)))) × Int) (B := (List ((List (Int × Int))))) (fun self1 x0 =>
    bif decide (x0.2 < (a0.2.2.2.2.2.2.2.2.2.2.2.2.2.2.2.2.1.length : Int)) then
     bnd a0.2.2.2.2.2.2.2.2.2.2.2.2.2.2.2.2.1.length x0.2 fun n2 =>
     Option.bind a0.2.2.2.2.2.2.2.2.2.2.2.2.2.2.2.2.1[n2]? fun y3 =>
     Option.bind (g_iOwned y3) fun r4 =>
     bif decide (x0.1.length + [r4.1].length ≤ 4294967296) then
      self1 (x0.1 ++ [r4.1], IntKind.wrap .i64 (x0.2 + (1 : Int)))
     else none
    else some x0.1) ([], (0 : Int)) : Option ((List ((List (Int × Int)))))) fun x5 =>
  some (x5, ()) := by kernel_rfl
def c_iWholeEdges : TC :=
 (.seq (.rg [o1 4 (.lit [.sl [.i .i64, .i .i64]] [.slice none 0 0]),
   o1 5 (.lit [.b] [.bool false])])
 (.seq (.rg [o1 6 (.lit [.sl [.i .i64, .i .i64]] [.slice none 0 0])])
 (.seq (.join [⟨6, [.sl [.i .i64, .i .i64]], false⟩] 34359737712 (some [⟨4, [.sl [.i .i64, .i .i64]], false⟩, ⟨5, [.b], false⟩]) (.seq (.rg [o1 11 (.copy 0),
   o1 12 (.app none 11),
   o1 13 (.copy 1),
   o1 14 (.sli [.sl [.i .i64, .i .i64]] [.t 13]),
   ⟨false, [], [], .det 2 (.app (some 12) 14), [15, 12], (some 15), none⟩,
   o1 16 (.len 15),
   o1 17 (.lit [.i .i64] [.int .i64 (0)])])
 (.block 0 (.loop [⟨6, [.sl [.i .i64, .i .i64]], false⟩, ⟨17, [.i .i64], false⟩] 34359608688
  (.seq (.rg [o1 18 (.data (.bin .lss) [.t 17, .t 16])])
  (.seq (.cond (.t 18)
   .skip
   (.exit 0))
  (.seq (.join [⟨6, [.sl [.i .i64, .i .i64]], false⟩] 17179346288 (some [⟨4, [.sl [.i .i64, .i .i64]], false⟩, ⟨5, [.b], false⟩]) (.block 1 (.seq (.rg [o1 19 (.index 15 (.t 17)),
    o1 20 (.load 15 [(0, 1)] 0 (.t 19) 1 false),
    o1 8 (.copy 20)])
  (.seq (.rg [o1 21 (.copy 8),
    o1 22 (.len 21),
    o1 23 (.lit [.i .i64] [.int .i64 (0)])])
  (.block 2 (.loop [⟨6, [.sl [.i .i64, .i .i64]], false⟩, ⟨23, [.i .i64], false⟩] 17171481712
   (.seq (.rg [o1 24 (.data (.bin .lss) [.t 23, .t 22])])
   (.seq (.cond (.t 24)
    .skip
    (.exit 2))
   (.seq (.block 3 (.seq (.rg [o1 25 (.index 21 (.t 23)),
     o1 26 (.load 21 [(0, 2)] 0 (.t 25) 2 false),
     ⟨false, [], [], .det 2 (.a (.c [.i .i64, .i .i64] [.int .i64 (0), .int .i64 (0)])), [10, 1000000001], (some 10), none⟩,
     o4 1 [10] (.store 10 [] 0 .nil (.t 26))])
   (.seq (.seq (.rg [⟨true, [], [], .det 1 (.copy 6), [27], (some 27), none⟩,
     o1 28 (.load 10 [] 0 .nil 2 false),
     o3 29 138 [.t 27, .t 28]])
   (.cond (.t 29)
    (.seq (.rg [o1 4 (.lit [.sl [.i .i64, .i .i64]] [.slice none 0 0]),
      o1 5 (.lit [.b] [.bool false])])
    .ret)
    .skip))
   (.rg [⟨false, [], [], .det 2 (.copy 6), [30, 6, 27], (some 30), none⟩,
     o1 31 (.load 10 [] 0 .nil 2 false),
     o3 32 139 [.t 30, .t 31],
     ⟨false, [], [], .det 2 (.copy 32), [6, 32, 27], (some 6), none⟩]))))
   (.rg [o1 33 (.data (.bin .add) [.t 23, .c (.int .i64 (1))]),
     o1 23 (.copy 33)]))))))))))
  (.rg [o1 34 (.data (.bin .add) [.t 17, .c (.int .i64 (1))]),
    o1 17 (.copy 34)]))))))))
 (.seq (.rg [⟨false, [], [], .det 2 (.copy 6), [35, 6], (some 35), none⟩,
   ⟨false, [], [], .det 2 (.copy 35), [4, 35], (some 4), none⟩,
   o1 5 (.lit [.b] [.bool true])])
 .ret))))
def s_iWholeEdges : Sig := ⟨[.rd false [.sl (.own none) [.sl (.own none) [.d, .d]]], .rd false [.sl (.own none) [.d, .d]]], (.tup [(false, 1), (false, 1)] [.sl (.own none) [.d, .d], .d])⟩
noncomputable def E_iWholeEdges : TEnv := envOf [(138, p_ihasEdge), (139, p_iwithEdge)]
noncomputable def f_iWholeEdges (n : Nat) : (List (List (Int × Int))) × (List (Int × Int)) → Option ((List (Int × Int) × Bool) × Unit) := runFn n E_iWholeEdges c_iWholeEdges [[.sl [.sl [.i .i64, .i .i64]]], [.sl [.i .i64, .i .i64]]] [.sl [.i .i64, .i .i64], .b] [] [4, 5] .no
noncomputable def g_iWholeEdges := f_iWholeEdges BIG
noncomputable def p_iWholeEdges : TSp := ⟨s_iWholeEdges, [[.sl [.sl [.i .i64, .i .i64]]], [.sl [.i .i64, .i .i64]]], [.sl [.i .i64, .i .i64], .b], [], Ou.j .no, g_iWholeEdges⟩
theorem k_iWholeEdges : chkW PG E_iWholeEdges 70 s_iWholeEdges (c_iWholeEdges.ht 36) .no = some (c_iWholeEdges.wc E_iWholeEdges, [4, 5]) := by kernel_rfl
theorem ok_iWholeEdges : p_iWholeEdges.Ok PG 70 := mkOk (env_cons ok_ihasEdge (env_cons ok_iwithEdge (env_nil PG))) k_iWholeEdges (by kernel_rfl)
theorem e_iWholeEdges (n : Nat) (a0 : List ((List (Int × Int)))) (a1 : List (Int × Int)) : f_iWholeEdges n (a0, a1) =
  Option.bind (bif decide (a0.length ≤ 4294967296) then
    bif decide (a0.length + [a1].length ≤ 4294967296) then
     loopT n (X := (List (Int × Int)) × Int) (B := ((List (Int × Int))) ⊕ ((List (Int × Int)) × Bool)) (fun self1 x0 =>
      bif decide (x0.2 < ((a0 ++ [a1]).length : Int)) then
       Option.bind (bnd (a0 ++ [a1]).length x0.2 fun n2 =>
        Option.bind (a0 ++ [a1])[n2]? fun y3 =>
        loopT n (X := (List (Int × Int)) × Int) (B := ((List (Int × Int))) ⊕ ((List (Int × Int)) × Bool)) (fun self5 x4 =>
         bif decide (x4.2 < (y3.length : Int)) then
          bnd y3.length x4.2 fun n6 =>
          Option.bind y3[n6]? fun y7 =>
          Option.bind (g_ihasEdge (x4.1, y7)) fun r8 =>
          bif r8.1 then
           some (Sum.inr ([], false))
          else Option.bind (g_iwithEdge (x4.1, y7)) fun r9 =>
          self5 (r9.1, IntKind.wrap .i64 (x4.2 + (1 : Int)))
         else some (Sum.inl x4.1)) (x0.1, (0 : Int)) : Option (((List (Int × Int))) ⊕ ((List (Int × Int)) × Bool))) fun y => match y with
       | .inl x10 =>
        self1 (x10, IntKind.wrap .i64 (x0.2 + (1 : Int)))
       | .inr x10 =>
        some (Sum.inr (x10.1, x10.2))
      else some (Sum.inl x0.1)) ([], (0 : Int))
    else none
   else none : Option (((List (Int × Int))) ⊕ ((List (Int × Int)) × Bool))) fun y => match y with
  | .inl x11 =>
   some ((x11, true), ())
  | .inr x11 =>
   some (x11, ()) := by kernel_rfl
def c_iWholeLabels : TC :=
 (.seq (.rg [o1 6 (.lit [.sl [.i .i64]] [.slice none 0 0]),
   o1 7 (.lit [.b] [.bool false])])
 (.seq (.seq (.join [⟨22, [.b], false⟩] 8355840 none (.rg [o1 15 (.copy 0),
   o3 16 100 [.t 15, .c [.i .i64] [.int .i64 (1)], .c [.i .i64] [.int .i64 (12)]],
   o1 17 (.data .not [.t 16]),
   o1 18 (.copy 17),
   o2 19 (.copy 1) 3 false,
   o2 20 (.len 19) 3 false,
   o2 21 (.data (.bin .gtr) [.t 20, .c (.int .i64 (3))]) 3 false,
   ⟨false, [], [], .pick 18 (.c (.bool true)) (.t 21), [22], (some 22), none⟩]))
 (.cond (.t 22)
  (.seq (.rg [o1 6 (.lit [.sl [.i .i64]] [.slice none 0 0]),
    o1 7 (.lit [.b] [.bool false])])
  .ret)
  .skip))
 (.seq (.rg [o1 23 (.copy 0),
   o3 24 101 [.t 23],
   ⟨false, [], [], .det 2 (.copy 24), [8, 24], (some 8), none⟩])
 (.seq (.join [⟨8, [.sl [.i .i64]], false⟩] 4503599593823680 (some [⟨6, [.sl [.i .i64]], false⟩, ⟨7, [.b], false⟩]) (.seq (.rg [o1 25 (.copy 1),
   o1 26 (.len 25),
   o1 27 (.lit [.i .i64] [.int .i64 (0)])])
 (.block 0 (.loop [⟨8, [.sl [.i .i64]], false⟩, ⟨27, [.i .i64], false⟩] 4503599493160384
  (.seq (.rg [o1 28 (.data (.bin .lss) [.t 27, .t 26])])
  (.seq (.cond (.t 28)
   .skip
   (.exit 0))
  (.seq (.join [⟨8, [.sl [.i .i64]], false⟩] 2251799276821952 (some [⟨6, [.sl [.i .i64]], false⟩, ⟨7, [.b], false⟩]) (.block 1 (.seq (.rg [o1 29 (.index 25 (.t 27)),
    o1 30 (.load 25 [(0, 1)] 0 (.t 29) 1 false),
    o1 10 (.copy 30)])
  (.seq (.seq (.rg [o1 31 (.copy 10),
    o1 32 (.len 31),
    o1 33 (.copy 0),
    o1 34 (.data (.bin .neq) [.t 32, .t 33])])
  (.cond (.t 34)
   (.seq (.rg [o1 6 (.lit [.sl [.i .i64]] [.slice none 0 0]),
     o1 7 (.lit [.b] [.bool false])])
   .ret)
   .skip))
  (.seq (.rg [o1 35 (.copy 10),
    o1 36 (.len 35),
    o1 37 (.lit [.i .i64] [.int .i64 (0)])])
  (.block 2 (.loop [⟨8, [.sl [.i .i64]], false⟩, ⟨37, [.i .i64], false⟩] 2251662374738368
   (.seq (.rg [o1 38 (.data (.bin .lss) [.t 37, .t 36])])
   (.seq (.cond (.t 38)
    .skip
    (.exit 2))
   (.seq (.block 3 (.seq (.rg [o1 39 (.copy 37),
     o1 40 (.index 35 (.t 37)),
     o1 41 (.load 35 [(0, 1)] 0 (.t 40) 1 false),
     o1 11 (.copy 39),
     o1 12 (.copy 41)])
   (.seq (.seq (.rg [o1 42 (.copy 12),
     o1 43 (.copy 11),
     o3 44 100 [.t 42, .c [.i .i64] [.int .i64 (0)], .t 43],
     o1 45 (.data .not [.t 44])])
   (.cond (.t 45)
    (.seq (.rg [o1 6 (.lit [.sl [.i .i64]] [.slice none 0 0]),
      o1 7 (.lit [.b] [.bool false])])
    .ret)
    .skip))
   (.rg [⟨true, [], [], .det 1 (.copy 8), [46], (some 46), none⟩,
     o1 47 (.copy 12),
     o1 48 (.copy 11),
     ⟨false, [], [], .call 2 141 [.t 46, .t 47, .t 48] (.mt 8 [] 0 46 0), [49, 8, 46], (some 49), none⟩]))))
   (.rg [o1 50 (.data (.bin .add) [.t 37, .c (.int .i64 (1))]),
     o1 37 (.copy 50)])))))))))))
  (.rg [o1 51 (.data (.bin .add) [.t 27, .c (.int .i64 (1))]),
    o1 27 (.copy 51)]))))))))
 (.seq (.join [⟨8, [.sl [.i .i64]], false⟩] 590291306759078298048 (some [⟨6, [.sl [.i .i64]], false⟩, ⟨7, [.b], false⟩]) (.seq (.rg [o1 52 (.copy 2),
   o1 53 (.len 52),
   o1 54 (.lit [.i .i64] [.int .i64 (0)])])
 (.block 4 (.loop [⟨8, [.sl [.i .i64]], false⟩, ⟨54, [.i .i64], false⟩] 590277795960196186560
  (.seq (.rg [o1 55 (.data (.bin .lss) [.t 54, .t 53])])
  (.seq (.cond (.t 55)
   .skip
   (.exit 4))
  (.seq (.block 5 (.seq (.rg [o1 56 (.index 52 (.t 54)),
    o1 57 (.load 52 [(0, 2)] 0 (.t 56) 2 false),
    ⟨false, [], [], .det 2 (.a (.c [.i .i64, .i .i64] [.int .i64 (0), .int .i64 (0)])), [14, 1000000001], (some 14), none⟩,
    o4 1 [14] (.store 14 [] 0 .nil (.t 57))])
  (.seq (.seq (.rg [o1 58 (.copy 0),
    o1 59 (.load 14 [] 0 .nil 2 false),
    o3 60 142 [.t 58, .t 59],
    o1 61 (.data .not [.t 60])])
  (.cond (.t 61)
   (.seq (.rg [o1 6 (.lit [.sl [.i .i64]] [.slice none 0 0]),
     o1 7 (.lit [.b] [.bool false])])
   .ret)
   .skip))
  (.rg [⟨true, [], [], .det 1 (.copy 8), [62], (some 62), none⟩,
    o1 63 (.idx .nil),
    o1 64 (.load 14 [] 0 (.t 63) 1 false),
    o1 65 (.idx .nil),
    o1 66 (.load 14 [] 1 (.t 65) 1 false),
    ⟨false, [], [], .call 2 141 [.t 62, .t 64, .t 66] (.mt 8 [] 0 62 0), [67, 8, 62], (some 67), none⟩]))))
  (.rg [o1 68 (.data (.bin .add) [.t 54, .c (.int .i64 (1))]),
    o1 54 (.copy 68)]))))))))
 (.seq (.rg [⟨false, [], [], .det 2 (.copy 8), [69, 8], (some 69), none⟩,
   ⟨false, [], [], .det 2 (.copy 69), [6, 69], (some 6), none⟩,
   o1 7 (.lit [.b] [.bool true])])
 .ret))))))
def s_iWholeLabels : Sig := ⟨[.rd false [.d], .rd false [.sl (.own none) [.sl (.own none) [.d]]], .rd false [.sl (.own none) [.d, .d]]], (.tup [(false, 1), (false, 1)] [.sl (.own none) [.d], .d])⟩
noncomputable def E_iWholeLabels : TEnv := envOf [(100, p_iin), (101, p_ifirst), (141, p_iunion), (142, p_iEdgeOk)]
noncomputable def f_iWholeLabels (n : Nat) : Int × List (List (Int)) × (List (Int × Int)) → Option ((List (Int) × Bool) × Unit) := runFn n E_iWholeLabels c_iWholeLabels [[.i .i64], [.sl [.sl [.i .i64]]], [.sl [.i .i64, .i .i64]]] [.sl [.i .i64], .b] [] [6, 7] .no
noncomputable def g_iWholeLabels := f_iWholeLabels BIG
noncomputable def p_iWholeLabels : TSp := ⟨s_iWholeLabels, [[.i .i64], [.sl [.sl [.i .i64]]], [.sl [.i .i64, .i .i64]]], [.sl [.i .i64], .b], [], Ou.j .no, g_iWholeLabels⟩
theorem k_iWholeLabels : chkW PG E_iWholeLabels 72 s_iWholeLabels (c_iWholeLabels.ht 70) .no = some (c_iWholeLabels.wc E_iWholeLabels, [6, 7]) := by kernel_rfl
theorem ok_iWholeLabels : p_iWholeLabels.Ok PG 72 := mkOk (env_cons ok_iin (env_cons ok_ifirst (env_cons ok_iunion (env_cons ok_iEdgeOk (env_nil PG))))) k_iWholeLabels (by kernel_rfl)
theorem e_iWholeLabels (n : Nat) (a0 : Int) (a1 : List ((List (Int)))) (a2 : List (Int × Int)) : f_iWholeLabels n (a0, a1, a2) =
  Option.bind (Option.bind (g_iin (a0, (1 : Int), (12 : Int))) fun r0 =>
   bif !r0.1 then
    some true
   else some (decide ((3 : Int) < (a1.length : Int))) : Option (Bool)) fun x1 =>
  bif x1 then
   some (([], false), ())
  else Option.bind (g_ifirst a0) fun r2 =>
  Option.bind (loopT n (X := (List (Int)) × Int) (B := ((List (Int))) ⊕ ((List (Int)) × Bool)) (fun self4 x3 =>
    bif decide (x3.2 < (a1.length : Int)) then
     Option.bind (bnd a1.length x3.2 fun n5 =>
      Option.bind a1[n5]? fun y6 =>
      bif !decide ((y6.length : Int) = a0) then
       some (Sum.inr ([], false))
      else loopT n (X := (List (Int)) × Int) (B := ((List (Int))) ⊕ ((List (Int)) × Bool)) (fun self8 x7 =>
       bif decide (x7.2 < (y6.length : Int)) then
        bnd y6.length x7.2 fun n9 =>
        Option.bind y6[n9]? fun y10 =>
        Option.bind (g_iin (y10, (0 : Int), x7.2)) fun r11 =>
        bif !r11.1 then
         some (Sum.inr ([], false))
        else Option.bind (g_iunion (x7.1, y10, x7.2)) fun r12 =>
        self8 (r12.2, IntKind.wrap .i64 (x7.2 + (1 : Int)))
       else some (Sum.inl x7.1)) (x3.1, (0 : Int)) : Option (((List (Int))) ⊕ ((List (Int)) × Bool))) fun y => match y with
     | .inl x13 =>
      self4 (x13, IntKind.wrap .i64 (x3.2 + (1 : Int)))
     | .inr x13 =>
      some (Sum.inr (x13.1, x13.2))
    else some (Sum.inl x3.1)) (r2.1, (0 : Int)) : Option (((List (Int))) ⊕ ((List (Int)) × Bool))) fun y => match y with
  | .inl x14 =>
   Option.bind (loopT n (X := (List (Int)) × Int) (B := ((List (Int))) ⊕ ((List (Int)) × Bool)) (fun self16 x15 =>
     bif decide (x15.2 < (a2.length : Int)) then
      bnd a2.length x15.2 fun n17 =>
      Option.bind a2[n17]? fun y18 =>
      Option.bind (g_iEdgeOk (a0, y18)) fun r19 =>
      bif !r19.1 then
       some (Sum.inr ([], false))
      else Option.bind (g_iunion (x15.1, y18.1, y18.2)) fun r20 =>
      self16 (r20.2, IntKind.wrap .i64 (x15.2 + (1 : Int)))
     else some (Sum.inl x15.1)) (x14, (0 : Int)) : Option (((List (Int))) ⊕ ((List (Int)) × Bool))) fun y => match y with
   | .inl x21 =>
    some ((x21, true), ())
   | .inr x21 =>
    some (x21, ())
  | .inr x14 =>
   some (x14, ()) := by kernel_rfl
def c_isameEdges : TC :=
 (.seq (.rg [o1 4 (.lit [.b] [.bool false])])
 (.seq (.seq (.rg [o1 6 (.copy 0),
   o1 7 (.len 6),
   o1 8 (.copy 1),
   o1 9 (.len 8),
   o1 10 (.data (.bin .neq) [.t 7, .t 9])])
 (.cond (.t 10)
  (.seq (.rg [o1 4 (.lit [.b] [.bool false])])
  .ret)
  .skip))
 (.seq (.join [] 67106864 (some [⟨4, [.b], false⟩]) (.seq (.rg [o1 11 (.copy 0),
   o1 12 (.len 11),
   o1 13 (.lit [.i .i64] [.int .i64 (0)])])
 (.block 0 (.loop [⟨13, [.i .i64], false⟩] 67100720
  (.seq (.rg [o1 14 (.data (.bin .lss) [.t 13, .t 12])])
  (.seq (.cond (.t 14)
   .skip
   (.exit 0))
  (.seq (.block 1 (.seq (.rg [o1 15 (.copy 13),
    o1 5 (.copy 15)])
  (.seq (.rg [o1 16 (.copy 0),
    o1 17 (.copy 5),
    o1 18 (.index 16 (.t 17)),
    o1 19 (.load 16 [(0, 2)] 0 (.t 18) 2 false),
    o1 20 (.copy 1),
    o1 21 (.copy 5),
    o1 22 (.index 20 (.t 21)),
    o1 23 (.load 20 [(0, 2)] 0 (.t 22) 2 false),
    o1 24 (.eqA [.i, .i] (.t 19) (.t 23) true)])
  (.cond (.t 24)
   (.seq (.rg [o1 4 (.lit [.b] [.bool false])])
   .ret)
   .skip))))
  (.rg [o1 25 (.data (.bin .add) [.t 13, .c (.int .i64 (1))]),
    o1 13 (.copy 25)]))))))))
 (.seq (.rg [o1 4 (.lit [.b] [.bool true])])
 .ret))))
def s_isameEdges : Sig := ⟨[.rd false [.sl (.own none) [.d, .d]], .rd false [.sl (.own none) [.d, .d]]], (.one false [.d])⟩
noncomputable def E_isameEdges : TEnv := envOf []
noncomputable def f_isameEdges (n : Nat) : (List (Int × Int)) × (List (Int × Int)) → Option ((Bool) × Unit) := runFn n E_isameEdges c_isameEdges [[.sl [.i .i64, .i .i64]], [.sl [.i .i64, .i .i64]]] [.b] [] [4] .no
noncomputable def g_isameEdges := f_isameEdges BIG
noncomputable def p_isameEdges : TSp := ⟨s_isameEdges, [[.sl [.i .i64, .i .i64]], [.sl [.i .i64, .i .i64]]], [.b], [], Ou.j .no, g_isameEdges⟩
theorem k_isameEdges : chkW PG E_isameEdges 73 s_isameEdges (c_isameEdges.ht 26) .no = some (c_isameEdges.wc E_isameEdges, [4]) := by kernel_rfl
theorem ok_isameEdges : p_isameEdges.Ok PG 73 := mkOk (env_nil PG) k_isameEdges (by kernel_rfl)
theorem e_isameEdges (n : Nat) (a0 : List (Int × Int)) (a1 : List (Int × Int)) : f_isameEdges n (a0, a1) =
  bif !decide ((a0.length : Int) = (a1.length : Int)) then
   some (false, ())
  else Option.bind (loopT n (X := Int) (B := (Unit) ⊕ (Bool)) (fun self1 x0 =>
    bif decide (x0 < (a0.length : Int)) then
     bnd a0.length x0 fun n2 =>
     Option.bind a0[n2]? fun y3 =>
     bnd a1.length x0 fun n4 =>
     Option.bind a1[n4]? fun y5 =>
     bif !(decide (y3.1 = y5.1) && (decide (y3.2 = y5.2) && true)) then
      some (Sum.inr false)
     else self1 (IntKind.wrap .i64 (x0 + (1 : Int)))
    else some (Sum.inl ())) (0 : Int) : Option ((Unit) ⊕ (Bool))) fun y => match y with
  | .inl x6 =>
   some (true, ())
  | .inr x6 =>
   some (x6, ()) := by kernel_rfl
def c_isameInts : TC :=
 (.seq (.rg [o1 4 (.lit [.b] [.bool false])])
 (.seq (.seq (.rg [o1 6 (.copy 0),
   o1 7 (.len 6),
   o1 8 (.copy 1),
   o1 9 (.len 8),
   o1 10 (.data (.bin .neq) [.t 7, .t 9])])
 (.cond (.t 10)
  (.seq (.rg [o1 4 (.lit [.b] [.bool false])])
  .ret)
  .skip))
 (.seq (.join [] 67106864 (some [⟨4, [.b], false⟩]) (.seq (.rg [o1 11 (.copy 0),
   o1 12 (.len 11),
   o1 13 (.lit [.i .i64] [.int .i64 (0)])])
 (.block 0 (.loop [⟨13, [.i .i64], false⟩] 67100720
  (.seq (.rg [o1 14 (.data (.bin .lss) [.t 13, .t 12])])
  (.seq (.cond (.t 14)
   .skip
   (.exit 0))
  (.seq (.block 1 (.seq (.rg [o1 15 (.copy 13),
    o1 5 (.copy 15)])
  (.seq (.rg [o1 16 (.copy 0),
    o1 17 (.copy 5),
    o1 18 (.index 16 (.t 17)),
    o1 19 (.load 16 [(0, 1)] 0 (.t 18) 1 false),
    o1 20 (.copy 1),
    o1 21 (.copy 5),
    o1 22 (.index 20 (.t 21)),
    o1 23 (.load 20 [(0, 1)] 0 (.t 22) 1 false),
    o1 24 (.data (.bin .neq) [.t 19, .t 23])])
  (.cond (.t 24)
   (.seq (.rg [o1 4 (.lit [.b] [.bool false])])
   .ret)
   .skip))))
  (.rg [o1 25 (.data (.bin .add) [.t 13, .c (.int .i64 (1))]),
    o1 13 (.copy 25)]))))))))
 (.seq (.rg [o1 4 (.lit [.b] [.bool true])])
 .ret))))
def s_isameInts : Sig := ⟨[.rd false [.sl (.own none) [.d]], .rd false [.sl (.own none) [.d]]], (.one false [.d])⟩
noncomputable def E_isameInts : TEnv := envOf []
noncomputable def f_isameInts (n : Nat) : List (Int) × List (Int) → Option ((Bool) × Unit) := runFn n E_isameInts c_isameInts [[.sl [.i .i64]], [.sl [.i .i64]]] [.b] [] [4] .no
noncomputable def g_isameInts := f_isameInts BIG
noncomputable def p_isameInts : TSp := ⟨s_isameInts, [[.sl [.i .i64]], [.sl [.i .i64]]], [.b], [], Ou.j .no, g_isameInts⟩
theorem k_isameInts : chkW PG E_isameInts 74 s_isameInts (c_isameInts.ht 26) .no = some (c_isameInts.wc E_isameInts, [4]) := by kernel_rfl
theorem ok_isameInts : p_isameInts.Ok PG 74 := mkOk (env_nil PG) k_isameInts (by kernel_rfl)
theorem e_isameInts (n : Nat) (a0 : List (Int)) (a1 : List (Int)) : f_isameInts n (a0, a1) =
  bif !decide ((a0.length : Int) = (a1.length : Int)) then
   some (false, ())
  else Option.bind (loopT n (X := Int) (B := (Unit) ⊕ (Bool)) (fun self1 x0 =>
    bif decide (x0 < (a0.length : Int)) then
     bnd a0.length x0 fun n2 =>
     Option.bind a0[n2]? fun y3 =>
     bnd a1.length x0 fun n4 =>
     Option.bind a1[n4]? fun y5 =>
     bif !decide (y3 = y5) then
      some (Sum.inr false)
     else self1 (IntKind.wrap .i64 (x0 + (1 : Int)))
    else some (Sum.inl ())) (0 : Int) : Option ((Unit) ⊕ (Bool))) fun y => match y with
  | .inl x6 =>
   some (true, ())
  | .inr x6 =>
   some (x6, ()) := by kernel_rfl
def c_iAgrees : TC :=
 (.seq (.rg [o1 1 (.a (.t 0)),
   o1 2 (.lit [.b] [.bool false])])
 (.seq (.seq (.rg [o1 9 (.idx .nil),
   o1 10 (.load 1 [] 1 (.t 9) 15 false),
   o3 11 68 [.t 10]])
 (.cond (.t 11)
  (.seq (.rg [o1 2 (.lit [.b] [.bool true])])
  .ret)
  .skip))
 (.seq (.rg [o1 13 (.idx .nil),
   o1 14 (.load 1 [] 0 (.t 13) 1 false),
   o1 15 (.idx .nil),
   o1 16 (.idx (.t 15)),
   o1 17 (.load 1 [] 15 (.t 16) 1 false),
   o3 18 69 [.t 14, .t 17],
   ⟨false, [], [], .det 2 (.copy 18), [12, 18], (some 12), none⟩,
   ⟨false, [], [], .det 2 (.ext 12 0 2), [19, 12], (some 19), none⟩,
   o1 20 (.ext 12 2 1),
   ⟨false, [], [], .det 2 (.a (.c [.i .i64, .sl [.i .i64, .i .i64]] [.int .i64 (0), .slice none 0 0])), [3, 1000000001], (some 3), none⟩,
   o4 2 [3, 19] (.store 3 [] 0 .nil (.t 19)),
   o1 4 (.copy 20)])
 (.seq (.rg [o1 22 (.load 1 [] 0 .nil 22 false),
   o3 23 71 [.t 22],
   o1 24 (.idx .nil),
   o1 25 (.idx (.t 24)),
   o1 26 (.load 1 [] 3 (.t 25) 1 false),
   o3 27 70 [.t 23, .t 26],
   ⟨false, [], [], .det 2 (.copy 27), [21, 27], (some 21), none⟩,
   ⟨false, [], [], .det 2 (.ext 21 0 1), [28, 21], (some 28), none⟩,
   o1 29 (.ext 21 1 1),
   ⟨false, [], [], .det 2 (.copy 28), [5, 28], (some 5), none⟩,
   o1 6 (.copy 29)])
 (.seq (.rg [o1 31 (.idx .nil),
   o1 32 (.load 1 [] 0 (.t 31) 1 false),
   o1 33 (.idx .nil),
   o1 34 (.idx (.t 33)),
   o1 35 (.load 1 [] 4 (.t 34) 1 false),
   o1 36 (.idx .nil),
   o1 37 (.idx (.t 36)),
   o1 38 (.load 1 [] 3 (.t 37) 1 false),
   o3 39 72 [.t 32, .t 35, .t 38],
   ⟨false, [], [], .det 2 (.copy 39), [30, 39], (some 30), none⟩,
   ⟨false, [], [], .det 2 (.ext 30 0 1), [40, 30], (some 40), none⟩,
   o1 41 (.ext 30 1 1),
   ⟨false, [], [], .det 2 (.copy 40), [7, 40], (some 7), none⟩,
   o1 8 (.copy 41)])
 (.seq (.join [⟨2, [.b], false⟩] 2305838611167183012 none (.rg [o1 42 (.copy 4),
   o1 43 (.copy 42),
   o2 44 (.copy 6) 1 true,
   ⟨false, [], [], .pick 43 (.t 44) (.c (.bool false)), [45], (some 45), none⟩,
   o1 46 (.copy 45),
   o2 47 (.copy 8) 4 true,
   ⟨false, [], [], .pick 46 (.t 47) (.c (.bool false)), [48], (some 48), none⟩,
   o1 49 (.copy 48),
   ⟨false, [], [], .det 2 (.copy 5), [50, 5], (some 50), some (7, true)⟩,
   o2 51 (.idx .nil) 7 true,
   o2 52 (.load 3 [] 1 (.t 51) 1 true) 7 true,
   ⟨false, [], [], .call 1 73 [.t 50, .t 52] .no, [53], (some 53), some (7, true)⟩,
   ⟨false, [], [], .pick 49 (.t 53) (.c (.bool false)), [54], (some 54), none⟩,
   o1 55 (.copy 54),
   ⟨false, [], [], .det 2 (.copy 7), [56, 7], (some 56), some (13, true)⟩,
   o2 57 (.load 3 [] 0 .nil 2 true) 13 true,
   ⟨false, [], [], .call 1 75 [.t 57] .no, [58], (some 58), some (13, true)⟩,
   ⟨false, [], [], .call 1 74 [.t 56, .t 58] .no, [59], (some 59), some (13, true)⟩,
   ⟨false, [], [], .pick 55 (.t 59) (.c (.bool false)), [60], (some 60), none⟩,
   o1 2 (.copy 60)]))
 .ret))))))
def s_iAgrees : Sig := ⟨[.rd true [.d, .d, .sl (.own none) [.d], .sl (.own none) [.d, .d], .sl (.own none) [.sl (.own none) [.d]], .sl (.own none) [.d], .d, .d, .d, .d, .d, .d, .d, .sl (.own none) [.d, .d], .d, .sl (.own none) [.d, .d, .d, .d, .d, .d], .sl (.own none) [.d, .d, .sl (.own none) [.d, .d, .d, .d], .d, .d, .sl (.own none) [.d, .d], .sl (.own none) [.d]], .sl (.own none) [.sl (.own none) [.d, .d, .d]], .sl (.own none) [.d], .sl (.own none) [.d, .d, .d], .sl (.own none) [.d, .d, .d, .d, .d, .d, .d], .sl (.own none) [.d, .d, .d, .d, .d, .d, .d, .d, .sl (.own none) [.d, .d], .sl (.own none) [.d], .d, .d, .sl (.own none) [.d, .d], .d]]], (.one false [.d])⟩
noncomputable def E_iAgrees : TEnv := envOf [(68, p_iBusy), (69, p_imade), (71, p_iwebs), (70, p_iWholeEdges), (72, p_iWholeLabels), (73, p_isameEdges), (75, p_iLabels), (74, p_isameInts)]
noncomputable def f_iAgrees (n : Nat) : (Int × Int × List (Int) × List (Int × Int) × List (List (Int)) × List (Int) × Int × Int × Int × Int × Int × Int × Int × List (Int × Int) × Int × List (Int × Int × Int × Int × Int × Int) × List (Int × Int × List (Int × Int × Int × Bool) × Int × Bool × List (Int × Int) × List (Int)) × List (List (ByteArray × ByteArray × Int)) × List (Bool) × List (Int × Int × ByteArray) × List (Int × Int × Int × Int × Int × Int × Int) × List (Int × Int × Int × Int × Int × Int × Int × Bool × List (Int × Int) × List (Int) × Int × Int × List (Int × Int) × Int)) → Option ((Bool) × Unit) := runFn n E_iAgrees c_iAgrees [[.i .i64, .i .i64, .sl [.i .i64], .sl [.i .i64, .i .i64], .sl [.sl [.i .i64]], .sl [.i .i64], .i .i64, .i .i64, .i .i64, .i .i64, .i .i64, .i .i64, .i .i64, .sl [.i .i64, .i .i64], .i .i64, .sl [.i .i64, .i .i64, .i .i64, .i .i64, .i .i64, .i .i64], .sl [.i .i64, .i .i64, .sl [.i .i64, .i .i64, .i .i64, .b], .i .i64, .b, .sl [.i .i64, .i .i64], .sl [.i .i64]], .sl [.sl [.s, .s, .i .i64]], .sl [.b], .sl [.i .i64, .i .i64, .s], .sl [.i .i64, .i .i64, .i .i64, .i .i64, .i .i64, .i .i64, .i .i64], .sl [.i .i64, .i .i64, .i .i64, .i .i64, .i .i64, .i .i64, .i .i64, .b, .sl [.i .i64, .i .i64], .sl [.i .i64], .i .i64, .i .i64, .sl [.i .i64, .i .i64], .i .i64]]] [.b] [] [2] .no
noncomputable def g_iAgrees := f_iAgrees BIG
noncomputable def p_iAgrees : TSp := ⟨s_iAgrees, [[.i .i64, .i .i64, .sl [.i .i64], .sl [.i .i64, .i .i64], .sl [.sl [.i .i64]], .sl [.i .i64], .i .i64, .i .i64, .i .i64, .i .i64, .i .i64, .i .i64, .i .i64, .sl [.i .i64, .i .i64], .i .i64, .sl [.i .i64, .i .i64, .i .i64, .i .i64, .i .i64, .i .i64], .sl [.i .i64, .i .i64, .sl [.i .i64, .i .i64, .i .i64, .b], .i .i64, .b, .sl [.i .i64, .i .i64], .sl [.i .i64]], .sl [.sl [.s, .s, .i .i64]], .sl [.b], .sl [.i .i64, .i .i64, .s], .sl [.i .i64, .i .i64, .i .i64, .i .i64, .i .i64, .i .i64, .i .i64], .sl [.i .i64, .i .i64, .i .i64, .i .i64, .i .i64, .i .i64, .i .i64, .b, .sl [.i .i64, .i .i64], .sl [.i .i64], .i .i64, .i .i64, .sl [.i .i64, .i .i64], .i .i64]]], [.b], [], Ou.j .no, g_iAgrees⟩
theorem k_iAgrees : chkW PG E_iAgrees 23 s_iAgrees (c_iAgrees.ht 61) .no = some (c_iAgrees.wc E_iAgrees, [2]) := by kernel_rfl
theorem ok_iAgrees : p_iAgrees.Ok PG 23 := mkOk (env_cons ok_iBusy (env_cons ok_imade (env_cons ok_iwebs (env_cons ok_iWholeEdges (env_cons ok_iWholeLabels (env_cons ok_isameEdges (env_cons ok_iLabels (env_cons ok_isameInts (env_nil PG))))))))) k_iAgrees (by kernel_rfl)
theorem e_iAgrees (n : Nat) (a0 : Int × Int × List (Int) × List (Int × Int) × List ((List (Int))) × List (Int) × Int × Int × Int × Int × Int × Int × Int × List (Int × Int) × Int × List (Int × Int × Int × Int × Int × Int) × List (Int × Int × (List (Int × Int × Int × Bool)) × Int × Bool × (List (Int × Int)) × (List (Int))) × List ((List (ByteArray × ByteArray × Int))) × List (Bool) × List (Int × Int × ByteArray) × List (Int × Int × Int × Int × Int × Int × Int) × List (Int × Int × Int × Int × Int × Int × Int × Bool × (List (Int × Int)) × (List (Int)) × Int × Int × (List (Int × Int)) × Int)) : f_iAgrees n a0 =
  Option.bind (g_iBusy (a0.2.1, a0.2.2.1, a0.2.2.2.1, a0.2.2.2.2.1, a0.2.2.2.2.2.1, a0.2.2.2.2.2.2.1, a0.2.2.2.2.2.2.2.1, a0.2.2.2.2.2.2.2.2.1, a0.2.2.2.2.2.2.2.2.2.1, a0.2.2.2.2.2.2.2.2.2.2.1, a0.2.2.2.2.2.2.2.2.2.2.2.1, a0.2.2.2.2.2.2.2.2.2.2.2.2.1, a0.2.2.2.2.2.2.2.2.2.2.2.2.2.1, a0.2.2.2.2.2.2.2.2.2.2.2.2.2.2.1, a0.2.2.2.2.2.2.2.2.2.2.2.2.2.2.2.1)) fun r0 =>
  bif r0.1 then
   some (true, ())
  else Option.bind (g_imade (a0.1, a0.2.2.2.2.2.2.2.2.2.2.2.2.2.2.2.1)) fun r1 =>
  Option.bind (g_iwebs a0) fun r2 =>
  Option.bind (g_iWholeEdges (r2.1, a0.2.2.2.1)) fun r3 =>
  Option.bind (g_iWholeLabels (a0.1, a0.2.2.2.2.1, a0.2.2.2.1)) fun r4 =>
  Option.bind (bif r1.1.2.2 then
    bif r3.1.2 then
     bif r4.1.2 then
      Option.bind (g_isameEdges (r3.1.1, r1.1.2.1)) fun r5 =>
      bif r5.1 then
       Option.bind (g_iLabels (r1.1.1, r1.1.2.1)) fun r6 =>
       Option.bind (g_isameInts (r4.1.1, r6.1)) fun r7 =>
       some r7.1
      else some false
     else some false
    else some false
   else some false : Option (Bool)) fun x8 =>
  some (x8, ()) := by kernel_rfl
def c_leqIntS : TC :=
 (.seq (.rg [o1 4 (.lit [.b] [.bool false])])
 (.seq (.seq (.rg [o1 6 (.copy 0),
   o1 7 (.len 6),
   o1 8 (.copy 1),
   o1 9 (.len 8),
   o1 10 (.data (.bin .neq) [.t 7, .t 9])])
 (.cond (.t 10)
  (.seq (.rg [o1 4 (.lit [.b] [.bool false])])
  .ret)
  .skip))
 (.seq (.join [] 67106864 (some [⟨4, [.b], false⟩]) (.seq (.rg [o1 5 (.lit [.i .i64] [.int .i64 (0)])])
 (.block 0 (.loop [⟨5, [.i .i64], false⟩] 67106864
  (.seq (.seq (.rg [o1 11 (.copy 5),
    o1 12 (.copy 0),
    o1 13 (.len 12),
    o1 14 (.data (.bin .lss) [.t 11, .t 13])])
  (.cond (.t 14)
   .skip
   (.exit 0)))
  (.seq (.block 1 (.seq (.rg [o1 17 (.copy 0),
    o1 18 (.copy 5),
    o1 19 (.index 17 (.t 18)),
    o1 20 (.load 17 [(0, 1)] 0 (.t 19) 1 false),
    o1 21 (.copy 1),
    o1 22 (.copy 5),
    o1 23 (.index 21 (.t 22)),
    o1 24 (.load 21 [(0, 1)] 0 (.t 23) 1 false),
    o1 25 (.data (.bin .neq) [.t 20, .t 24])])
  (.cond (.t 25)
   (.seq (.rg [o1 4 (.lit [.b] [.bool false])])
   .ret)
   .skip)))
  (.rg [o1 15 (.copy 5),
    o1 16 (.data (.bin .add) [.t 15, .c (.int .i64 (1))]),
    o1 5 (.copy 16)])))))))
 (.seq (.rg [o1 4 (.lit [.b] [.bool true])])
 .ret))))
def s_leqIntS : Sig := ⟨[.rd false [.sl (.own none) [.d]], .rd false [.sl (.own none) [.d]]], (.one false [.d])⟩
noncomputable def E_leqIntS : TEnv := envOf []
noncomputable def f_leqIntS (n : Nat) : List (Int) × List (Int) → Option ((Bool) × Unit) := runFn n E_leqIntS c_leqIntS [[.sl [.i .i64]], [.sl [.i .i64]]] [.b] [] [4] .no
noncomputable def g_leqIntS := f_leqIntS BIG
noncomputable def p_leqIntS : TSp := ⟨s_leqIntS, [[.sl [.i .i64]], [.sl [.i .i64]]], [.b], [], Ou.j .no, g_leqIntS⟩
theorem k_leqIntS : chkW PG E_leqIntS 38 s_leqIntS (c_leqIntS.ht 26) .no = some (c_leqIntS.wc E_leqIntS, [4]) := by kernel_rfl
theorem ok_leqIntS : p_leqIntS.Ok PG 38 := mkOk (env_nil PG) k_leqIntS (by kernel_rfl)
theorem e_leqIntS (n : Nat) (a0 : List (Int)) (a1 : List (Int)) : f_leqIntS n (a0, a1) =
  bif !decide ((a0.length : Int) = (a1.length : Int)) then
   some (false, ())
  else Option.bind (loopT n (X := Int) (B := (Unit) ⊕ (Bool)) (fun self1 x0 =>
    bif decide (x0 < (a0.length : Int)) then
     bnd a0.length x0 fun n2 =>
     Option.bind a0[n2]? fun y3 =>
     bnd a1.length x0 fun n4 =>
     Option.bind a1[n4]? fun y5 =>
     bif !decide (y3 = y5) then
      some (Sum.inr false)
     else self1 (IntKind.wrap .i64 (x0 + (1 : Int)))
    else some (Sum.inl ())) (0 : Int) : Option ((Unit) ⊕ (Bool))) fun y => match y with
  | .inl x6 =>
   some (true, ())
  | .inr x6 =>
   some (x6, ()) := by kernel_rfl
def c_leqEdge : TC :=
 (.seq (.rg [o1 2 (.a (.t 0)),
   o1 3 (.a (.t 1)),
   o1 4 (.lit [.b] [.bool false])])
 (.seq (.seq (.rg [o1 5 (.idx .nil),
   o1 6 (.load 2 [] 0 (.t 5) 1 false),
   o1 7 (.idx .nil),
   o1 8 (.load 3 [] 0 (.t 7) 1 false),
   o1 9 (.data (.bin .neq) [.t 6, .t 8])])
 (.cond (.t 9)
  (.seq (.rg [o1 4 (.lit [.b] [.bool false])])
  .ret)
  .skip))
 (.seq (.seq (.rg [o1 10 (.idx .nil),
   o1 11 (.load 2 [] 1 (.t 10) 1 false),
   o1 12 (.idx .nil),
   o1 13 (.load 3 [] 1 (.t 12) 1 false),
   o1 14 (.data (.bin .neq) [.t 11, .t 13])])
 (.cond (.t 14)
  (.seq (.rg [o1 4 (.lit [.b] [.bool false])])
  .ret)
  .skip))
 (.seq (.rg [o1 4 (.lit [.b] [.bool true])])
 .ret))))
def s_leqEdge : Sig := ⟨[.rd true [.d, .d], .rd true [.d, .d]], (.one false [.d])⟩
noncomputable def E_leqEdge : TEnv := envOf []
noncomputable def f_leqEdge (n : Nat) : (Int × Int) × (Int × Int) → Option ((Bool) × Unit) := runFn n E_leqEdge c_leqEdge [[.i .i64, .i .i64], [.i .i64, .i .i64]] [.b] [] [4] .no
noncomputable def g_leqEdge := f_leqEdge BIG
noncomputable def p_leqEdge : TSp := ⟨s_leqEdge, [[.i .i64, .i .i64], [.i .i64, .i .i64]], [.b], [], Ou.j .no, g_leqEdge⟩
theorem k_leqEdge : chkW PG E_leqEdge 111 s_leqEdge (c_leqEdge.ht 15) .no = some (c_leqEdge.wc E_leqEdge, [4]) := by kernel_rfl
theorem ok_leqEdge : p_leqEdge.Ok PG 111 := mkOk (env_nil PG) k_leqEdge (by kernel_rfl)
theorem e_leqEdge (n : Nat) (a0 : Int × Int) (a1 : Int × Int) : f_leqEdge n (a0, a1) =
  bif !decide (a0.1 = a1.1) then
   some (false, ())
  else bif !decide (a0.2 = a1.2) then
   some (false, ())
  else some (true, ()) := by kernel_rfl
def c_leqEdgeS : TC :=
 (.seq (.rg [o1 4 (.lit [.b] [.bool false])])
 (.seq (.seq (.rg [o1 6 (.copy 0),
   o1 7 (.len 6),
   o1 8 (.copy 1),
   o1 9 (.len 8),
   o1 10 (.data (.bin .neq) [.t 7, .t 9])])
 (.cond (.t 10)
  (.seq (.rg [o1 4 (.lit [.b] [.bool false])])
  .ret)
  .skip))
 (.seq (.join [] 134215728 (some [⟨4, [.b], false⟩]) (.seq (.rg [o1 5 (.lit [.i .i64] [.int .i64 (0)])])
 (.block 0 (.loop [⟨5, [.i .i64], false⟩] 134215728
  (.seq (.seq (.rg [o1 11 (.copy 5),
    o1 12 (.copy 0),
    o1 13 (.len 12),
    o1 14 (.data (.bin .lss) [.t 11, .t 13])])
  (.cond (.t 14)
   .skip
   (.exit 0)))
  (.seq (.block 1 (.seq (.rg [o1 17 (.copy 0),
    o1 18 (.copy 5),
    o1 19 (.index 17 (.t 18)),
    o1 20 (.load 17 [(0, 2)] 0 (.t 19) 2 false),
    o1 21 (.copy 1),
    o1 22 (.copy 5),
    o1 23 (.index 21 (.t 22)),
    o1 24 (.load 21 [(0, 2)] 0 (.t 23) 2 false),
    o3 25 111 [.t 20, .t 24],
    o1 26 (.data .not [.t 25])])
  (.cond (.t 26)
   (.seq (.rg [o1 4 (.lit [.b] [.bool false])])
   .ret)
   .skip)))
  (.rg [o1 15 (.copy 5),
    o1 16 (.data (.bin .add) [.t 15, .c (.int .i64 (1))]),
    o1 5 (.copy 16)])))))))
 (.seq (.rg [o1 4 (.lit [.b] [.bool true])])
 .ret))))
def s_leqEdgeS : Sig := ⟨[.rd false [.sl (.own none) [.d, .d]], .rd false [.sl (.own none) [.d, .d]]], (.one false [.d])⟩
noncomputable def E_leqEdgeS : TEnv := envOf [(111, p_leqEdge)]
noncomputable def f_leqEdgeS (n : Nat) : (List (Int × Int)) × (List (Int × Int)) → Option ((Bool) × Unit) := runFn n E_leqEdgeS c_leqEdgeS [[.sl [.i .i64, .i .i64]], [.sl [.i .i64, .i .i64]]] [.b] [] [4] .no
noncomputable def g_leqEdgeS := f_leqEdgeS BIG
noncomputable def p_leqEdgeS : TSp := ⟨s_leqEdgeS, [[.sl [.i .i64, .i .i64]], [.sl [.i .i64, .i .i64]]], [.b], [], Ou.j .no, g_leqEdgeS⟩
theorem k_leqEdgeS : chkW PG E_leqEdgeS 39 s_leqEdgeS (c_leqEdgeS.ht 27) .no = some (c_leqEdgeS.wc E_leqEdgeS, [4]) := by kernel_rfl
theorem ok_leqEdgeS : p_leqEdgeS.Ok PG 39 := mkOk (env_cons ok_leqEdge (env_nil PG)) k_leqEdgeS (by kernel_rfl)
theorem e_leqEdgeS (n : Nat) (a0 : List (Int × Int)) (a1 : List (Int × Int)) : f_leqEdgeS n (a0, a1) =
  bif !decide ((a0.length : Int) = (a1.length : Int)) then
   some (false, ())
  else Option.bind (loopT n (X := Int) (B := (Unit) ⊕ (Bool)) (fun self1 x0 =>
    bif decide (x0 < (a0.length : Int)) then
     bnd a0.length x0 fun n2 =>
     Option.bind a0[n2]? fun y3 =>
     bnd a1.length x0 fun n4 =>
     Option.bind a1[n4]? fun y5 =>
     Option.bind (g_leqEdge (y3, y5)) fun r6 =>
     bif !r6.1 then
      some (Sum.inr false)
     else self1 (IntKind.wrap .i64 (x0 + (1 : Int)))
    else some (Sum.inl ())) (0 : Int) : Option ((Unit) ⊕ (Bool))) fun y => match y with
  | .inl x7 =>
   some (true, ())
  | .inr x7 =>
   some (x7, ()) := by kernel_rfl
def c_leqIntSS : TC :=
 (.seq (.rg [o1 4 (.lit [.b] [.bool false])])
 (.seq (.seq (.rg [o1 6 (.copy 0),
   o1 7 (.len 6),
   o1 8 (.copy 1),
   o1 9 (.len 8),
   o1 10 (.data (.bin .neq) [.t 7, .t 9])])
 (.cond (.t 10)
  (.seq (.rg [o1 4 (.lit [.b] [.bool false])])
  .ret)
  .skip))
 (.seq (.join [] 134215728 (some [⟨4, [.b], false⟩]) (.seq (.rg [o1 5 (.lit [.i .i64] [.int .i64 (0)])])
 (.block 0 (.loop [⟨5, [.i .i64], false⟩] 134215728
  (.seq (.seq (.rg [o1 11 (.copy 5),
    o1 12 (.copy 0),
    o1 13 (.len 12),
    o1 14 (.data (.bin .lss) [.t 11, .t 13])])
  (.cond (.t 14)
   .skip
   (.exit 0)))
  (.seq (.block 1 (.seq (.rg [o1 17 (.copy 0),
    o1 18 (.copy 5),
    o1 19 (.index 17 (.t 18)),
    o1 20 (.load 17 [(0, 1)] 0 (.t 19) 1 false),
    o1 21 (.copy 1),
    o1 22 (.copy 5),
    o1 23 (.index 21 (.t 22)),
    o1 24 (.load 21 [(0, 1)] 0 (.t 23) 1 false),
    o3 25 38 [.t 20, .t 24],
    o1 26 (.data .not [.t 25])])
  (.cond (.t 26)
   (.seq (.rg [o1 4 (.lit [.b] [.bool false])])
   .ret)
   .skip)))
  (.rg [o1 15 (.copy 5),
    o1 16 (.data (.bin .add) [.t 15, .c (.int .i64 (1))]),
    o1 5 (.copy 16)])))))))
 (.seq (.rg [o1 4 (.lit [.b] [.bool true])])
 .ret))))
def s_leqIntSS : Sig := ⟨[.rd false [.sl (.own none) [.sl (.own none) [.d]]], .rd false [.sl (.own none) [.sl (.own none) [.d]]]], (.one false [.d])⟩
noncomputable def E_leqIntSS : TEnv := envOf [(38, p_leqIntS)]
noncomputable def f_leqIntSS (n : Nat) : List (List (Int)) × List (List (Int)) → Option ((Bool) × Unit) := runFn n E_leqIntSS c_leqIntSS [[.sl [.sl [.i .i64]]], [.sl [.sl [.i .i64]]]] [.b] [] [4] .no
noncomputable def g_leqIntSS := f_leqIntSS BIG
noncomputable def p_leqIntSS : TSp := ⟨s_leqIntSS, [[.sl [.sl [.i .i64]]], [.sl [.sl [.i .i64]]]], [.b], [], Ou.j .no, g_leqIntSS⟩
theorem k_leqIntSS : chkW PG E_leqIntSS 40 s_leqIntSS (c_leqIntSS.ht 27) .no = some (c_leqIntSS.wc E_leqIntSS, [4]) := by kernel_rfl
theorem ok_leqIntSS : p_leqIntSS.Ok PG 40 := mkOk (env_cons ok_leqIntS (env_nil PG)) k_leqIntSS (by kernel_rfl)
theorem e_leqIntSS (n : Nat) (a0 : List ((List (Int)))) (a1 : List ((List (Int)))) : f_leqIntSS n (a0, a1) =
  bif !decide ((a0.length : Int) = (a1.length : Int)) then
   some (false, ())
  else Option.bind (loopT n (X := Int) (B := (Unit) ⊕ (Bool)) (fun self1 x0 =>
    bif decide (x0 < (a0.length : Int)) then
     bnd a0.length x0 fun n2 =>
     Option.bind a0[n2]? fun y3 =>
     bnd a1.length x0 fun n4 =>
     Option.bind a1[n4]? fun y5 =>
     Option.bind (g_leqIntS (y3, y5)) fun r6 =>
     bif !r6.1 then
      some (Sum.inr false)
     else self1 (IntKind.wrap .i64 (x0 + (1 : Int)))
    else some (Sum.inl ())) (0 : Int) : Option ((Unit) ⊕ (Bool))) fun y => match y with
  | .inl x7 =>
   some (true, ())
  | .inr x7 =>
   some (x7, ()) := by kernel_rfl
def c_leqAsk : TC :=
 (.seq (.rg [o1 2 (.a (.t 0)),
   o1 3 (.a (.t 1)),
   o1 4 (.lit [.b] [.bool false])])
 (.seq (.seq (.rg [o1 5 (.idx .nil),
   o1 6 (.load 2 [] 0 (.t 5) 1 false),
   o1 7 (.idx .nil),
   o1 8 (.load 3 [] 0 (.t 7) 1 false),
   o1 9 (.data (.bin .neq) [.t 6, .t 8])])
 (.cond (.t 9)
  (.seq (.rg [o1 4 (.lit [.b] [.bool false])])
  .ret)
  .skip))
 (.seq (.seq (.rg [o1 10 (.idx .nil),
   o1 11 (.load 2 [] 1 (.t 10) 1 false),
   o1 12 (.idx .nil),
   o1 13 (.load 3 [] 1 (.t 12) 1 false),
   o1 14 (.data (.bin .neq) [.t 11, .t 13])])
 (.cond (.t 14)
  (.seq (.rg [o1 4 (.lit [.b] [.bool false])])
  .ret)
  .skip))
 (.seq (.seq (.rg [o1 15 (.idx .nil),
   o1 16 (.load 2 [] 2 (.t 15) 1 false),
   o1 17 (.idx .nil),
   o1 18 (.load 3 [] 2 (.t 17) 1 false),
   o1 19 (.data (.bin .neq) [.t 16, .t 18])])
 (.cond (.t 19)
  (.seq (.rg [o1 4 (.lit [.b] [.bool false])])
  .ret)
  .skip))
 (.seq (.seq (.rg [o1 20 (.idx .nil),
   o1 21 (.load 2 [] 3 (.t 20) 1 false),
   o1 22 (.idx .nil),
   o1 23 (.load 3 [] 3 (.t 22) 1 false),
   o1 24 (.data (.bin .neq) [.t 21, .t 23])])
 (.cond (.t 24)
  (.seq (.rg [o1 4 (.lit [.b] [.bool false])])
  .ret)
  .skip))
 (.seq (.rg [o1 4 (.lit [.b] [.bool true])])
 .ret))))))
def s_leqAsk : Sig := ⟨[.rd true [.d, .d, .d, .d], .rd true [.d, .d, .d, .d]], (.one false [.d])⟩
noncomputable def E_leqAsk : TEnv := envOf []
noncomputable def f_leqAsk (n : Nat) : (Int × Int × Int × Int) × (Int × Int × Int × Int) → Option ((Bool) × Unit) := runFn n E_leqAsk c_leqAsk [[.i .i64, .i .i64, .i .i64, .i .i64], [.i .i64, .i .i64, .i .i64, .i .i64]] [.b] [] [4] .no
noncomputable def g_leqAsk := f_leqAsk BIG
noncomputable def p_leqAsk : TSp := ⟨s_leqAsk, [[.i .i64, .i .i64, .i .i64, .i .i64], [.i .i64, .i .i64, .i .i64, .i .i64]], [.b], [], Ou.j .no, g_leqAsk⟩
theorem k_leqAsk : chkW PG E_leqAsk 86 s_leqAsk (c_leqAsk.ht 25) .no = some (c_leqAsk.wc E_leqAsk, [4]) := by kernel_rfl
theorem ok_leqAsk : p_leqAsk.Ok PG 86 := mkOk (env_nil PG) k_leqAsk (by kernel_rfl)
theorem e_leqAsk (n : Nat) (a0 : Int × Int × Int × Int) (a1 : Int × Int × Int × Int) : f_leqAsk n (a0, a1) =
  bif !decide (a0.1 = a1.1) then
   some (false, ())
  else bif !decide (a0.2.1 = a1.2.1) then
   some (false, ())
  else bif !decide (a0.2.2.1 = a1.2.2.1) then
   some (false, ())
  else bif !decide (a0.2.2.2 = a1.2.2.2) then
   some (false, ())
  else some (true, ()) := by kernel_rfl
def c_leqOrder : TC :=
 (.seq (.rg [o1 2 (.a (.t 0)),
   o1 3 (.a (.t 1)),
   o1 4 (.lit [.b] [.bool false])])
 (.seq (.seq (.rg [o1 5 (.idx .nil),
   o1 6 (.load 2 [] 0 (.t 5) 1 false),
   o1 7 (.idx .nil),
   o1 8 (.load 3 [] 0 (.t 7) 1 false),
   o1 9 (.data (.bin .neq) [.t 6, .t 8])])
 (.cond (.t 9)
  (.seq (.rg [o1 4 (.lit [.b] [.bool false])])
  .ret)
  .skip))
 (.seq (.seq (.rg [o1 10 (.idx .nil),
   o1 11 (.load 2 [] 1 (.t 10) 1 false),
   o1 12 (.idx .nil),
   o1 13 (.load 3 [] 1 (.t 12) 1 false),
   o1 14 (.data (.bin .neq) [.t 11, .t 13])])
 (.cond (.t 14)
  (.seq (.rg [o1 4 (.lit [.b] [.bool false])])
  .ret)
  .skip))
 (.seq (.seq (.rg [o1 15 (.idx .nil),
   o1 16 (.load 2 [] 2 (.t 15) 1 false),
   o1 17 (.idx .nil),
   o1 18 (.load 3 [] 2 (.t 17) 1 false),
   o3 19 39 [.t 16, .t 18],
   o1 20 (.data .not [.t 19])])
 (.cond (.t 20)
  (.seq (.rg [o1 4 (.lit [.b] [.bool false])])
  .ret)
  .skip))
 (.seq (.seq (.rg [o1 21 (.idx .nil),
   o1 22 (.load 2 [] 3 (.t 21) 1 false),
   o1 23 (.idx .nil),
   o1 24 (.load 3 [] 3 (.t 23) 1 false),
   o1 25 (.data (.bin .neq) [.t 22, .t 24])])
 (.cond (.t 25)
  (.seq (.rg [o1 4 (.lit [.b] [.bool false])])
  .ret)
  .skip))
 (.seq (.rg [o1 4 (.lit [.b] [.bool true])])
 .ret))))))
def s_leqOrder : Sig := ⟨[.rd true [.d, .d, .sl (.own none) [.d, .d], .d], .rd true [.d, .d, .sl (.own none) [.d, .d], .d]], (.one false [.d])⟩
noncomputable def E_leqOrder : TEnv := envOf [(39, p_leqEdgeS)]
noncomputable def f_leqOrder (n : Nat) : (Int × Int × List (Int × Int) × Int) × (Int × Int × List (Int × Int) × Int) → Option ((Bool) × Unit) := runFn n E_leqOrder c_leqOrder [[.i .i64, .i .i64, .sl [.i .i64, .i .i64], .i .i64], [.i .i64, .i .i64, .sl [.i .i64, .i .i64], .i .i64]] [.b] [] [4] .no
noncomputable def g_leqOrder := f_leqOrder BIG
noncomputable def p_leqOrder : TSp := ⟨s_leqOrder, [[.i .i64, .i .i64, .sl [.i .i64, .i .i64], .i .i64], [.i .i64, .i .i64, .sl [.i .i64, .i .i64], .i .i64]], [.b], [], Ou.j .no, g_leqOrder⟩
theorem k_leqOrder : chkW PG E_leqOrder 88 s_leqOrder (c_leqOrder.ht 26) .no = some (c_leqOrder.wc E_leqOrder, [4]) := by kernel_rfl
theorem ok_leqOrder : p_leqOrder.Ok PG 88 := mkOk (env_cons ok_leqEdgeS (env_nil PG)) k_leqOrder (by kernel_rfl)
theorem e_leqOrder (n : Nat) (a0 : Int × Int × List (Int × Int) × Int) (a1 : Int × Int × List (Int × Int) × Int) : f_leqOrder n (a0, a1) =
  bif !decide (a0.1 = a1.1) then
   some (false, ())
  else bif !decide (a0.2.1 = a1.2.1) then
   some (false, ())
  else Option.bind (g_leqEdgeS (a0.2.2.1, a1.2.2.1)) fun r0 =>
  bif !r0.1 then
   some (false, ())
  else bif !decide (a0.2.2.2 = a1.2.2.2) then
   some (false, ())
  else some (true, ()) := by kernel_rfl
def c_leqTask : TC :=
 (.seq (.rg [o1 2 (.a (.t 0)),
   o1 3 (.a (.t 1)),
   o1 4 (.lit [.b] [.bool false])])
 (.seq (.seq (.rg [o1 5 (.idx .nil),
   o1 6 (.load 2 [] 0 (.t 5) 4 false),
   o1 7 (.idx .nil),
   o1 8 (.load 3 [] 0 (.t 7) 4 false),
   o3 9 86 [.t 6, .t 8],
   o1 10 (.data .not [.t 9])])
 (.cond (.t 10)
  (.seq (.rg [o1 4 (.lit [.b] [.bool false])])
  .ret)
  .skip))
 (.seq (.seq (.rg [o1 11 (.idx .nil),
   o1 12 (.load 2 [] 4 (.t 11) 1 false),
   o1 13 (.idx .nil),
   o1 14 (.load 3 [] 4 (.t 13) 1 false),
   o1 15 (.data (.bin .neq) [.t 12, .t 14])])
 (.cond (.t 15)
  (.seq (.rg [o1 4 (.lit [.b] [.bool false])])
  .ret)
  .skip))
 (.seq (.seq (.rg [o1 16 (.idx .nil),
   o1 17 (.load 2 [] 5 (.t 16) 4 false),
   o1 18 (.idx .nil),
   o1 19 (.load 3 [] 5 (.t 18) 4 false),
   o3 20 88 [.t 17, .t 19],
   o1 21 (.data .not [.t 20])])
 (.cond (.t 21)
  (.seq (.rg [o1 4 (.lit [.b] [.bool false])])
  .ret)
  .skip))
 (.seq (.rg [o1 4 (.lit [.b] [.bool true])])
 .ret)))))
def s_leqTask : Sig := ⟨[.rd true [.d, .d, .d, .d, .d, .d, .d, .sl (.own none) [.d, .d], .d], .rd true [.d, .d, .d, .d, .d, .d, .d, .sl (.own none) [.d, .d], .d]], (.one false [.d])⟩
noncomputable def E_leqTask : TEnv := envOf [(86, p_leqAsk), (88, p_leqOrder)]
noncomputable def f_leqTask (n : Nat) : (Int × Int × Int × Int × Int × Int × Int × List (Int × Int) × Int) × (Int × Int × Int × Int × Int × Int × Int × List (Int × Int) × Int) → Option ((Bool) × Unit) := runFn n E_leqTask c_leqTask [[.i .i64, .i .i64, .i .i64, .i .i64, .i .i64, .i .i64, .i .i64, .sl [.i .i64, .i .i64], .i .i64], [.i .i64, .i .i64, .i .i64, .i .i64, .i .i64, .i .i64, .i .i64, .sl [.i .i64, .i .i64], .i .i64]] [.b] [] [4] .no
noncomputable def g_leqTask := f_leqTask BIG
noncomputable def p_leqTask : TSp := ⟨s_leqTask, [[.i .i64, .i .i64, .i .i64, .i .i64, .i .i64, .i .i64, .i .i64, .sl [.i .i64, .i .i64], .i .i64], [.i .i64, .i .i64, .i .i64, .i .i64, .i .i64, .i .i64, .i .i64, .sl [.i .i64, .i .i64], .i .i64]], [.b], [], Ou.j .no, g_leqTask⟩
theorem k_leqTask : chkW PG E_leqTask 41 s_leqTask (c_leqTask.ht 22) .no = some (c_leqTask.wc E_leqTask, [4]) := by kernel_rfl
theorem ok_leqTask : p_leqTask.Ok PG 41 := mkOk (env_cons ok_leqAsk (env_cons ok_leqOrder (env_nil PG))) k_leqTask (by kernel_rfl)
theorem e_leqTask (n : Nat) (a0 : Int × Int × Int × Int × Int × Int × Int × List (Int × Int) × Int) (a1 : Int × Int × Int × Int × Int × Int × Int × List (Int × Int) × Int) : f_leqTask n (a0, a1) =
  Option.bind (g_leqAsk ((a0.1, a0.2.1, a0.2.2.1, a0.2.2.2.1), (a1.1, a1.2.1, a1.2.2.1, a1.2.2.2.1))) fun r0 =>
  bif !r0.1 then
   some (false, ())
  else bif !decide (a0.2.2.2.2.1 = a1.2.2.2.2.1) then
   some (false, ())
  else Option.bind (g_leqOrder (a0.2.2.2.2.2, a1.2.2.2.2.2)) fun r1 =>
  bif !r1.1 then
   some (false, ())
  else some (true, ()) := by kernel_rfl
def c_leqSaid : TC :=
 (.seq (.rg [o1 2 (.a (.t 0)),
   o1 3 (.a (.t 1)),
   o1 4 (.lit [.b] [.bool false])])
 (.seq (.seq (.rg [o1 5 (.idx .nil),
   o1 6 (.load 2 [] 0 (.t 5) 1 false),
   o1 7 (.idx .nil),
   o1 8 (.load 3 [] 0 (.t 7) 1 false),
   o1 9 (.data (.bin .neq) [.t 6, .t 8])])
 (.cond (.t 9)
  (.seq (.rg [o1 4 (.lit [.b] [.bool false])])
  .ret)
  .skip))
 (.seq (.seq (.rg [o1 10 (.idx .nil),
   o1 11 (.load 2 [] 1 (.t 10) 4 false),
   o1 12 (.idx .nil),
   o1 13 (.load 3 [] 1 (.t 12) 4 false),
   o3 14 86 [.t 11, .t 13],
   o1 15 (.data .not [.t 14])])
 (.cond (.t 15)
  (.seq (.rg [o1 4 (.lit [.b] [.bool false])])
  .ret)
  .skip))
 (.seq (.seq (.rg [o1 16 (.idx .nil),
   o1 17 (.load 2 [] 5 (.t 16) 1 false),
   o1 18 (.idx .nil),
   o1 19 (.load 3 [] 5 (.t 18) 1 false),
   o1 20 (.data (.bin .neq) [.t 17, .t 19])])
 (.cond (.t 20)
  (.seq (.rg [o1 4 (.lit [.b] [.bool false])])
  .ret)
  .skip))
 (.seq (.rg [o1 4 (.lit [.b] [.bool true])])
 .ret)))))
def s_leqSaid : Sig := ⟨[.rd true [.d, .d, .d, .d, .d, .d], .rd true [.d, .d, .d, .d, .d, .d]], (.one false [.d])⟩
noncomputable def E_leqSaid : TEnv := envOf [(86, p_leqAsk)]
noncomputable def f_leqSaid (n : Nat) : (Int × Int × Int × Int × Int × Int) × (Int × Int × Int × Int × Int × Int) → Option ((Bool) × Unit) := runFn n E_leqSaid c_leqSaid [[.i .i64, .i .i64, .i .i64, .i .i64, .i .i64, .i .i64], [.i .i64, .i .i64, .i .i64, .i .i64, .i .i64, .i .i64]] [.b] [] [4] .no
noncomputable def g_leqSaid := f_leqSaid BIG
noncomputable def p_leqSaid : TSp := ⟨s_leqSaid, [[.i .i64, .i .i64, .i .i64, .i .i64, .i .i64, .i .i64], [.i .i64, .i .i64, .i .i64, .i .i64, .i .i64, .i .i64]], [.b], [], Ou.j .no, g_leqSaid⟩
theorem k_leqSaid : chkW PG E_leqSaid 27 s_leqSaid (c_leqSaid.ht 21) .no = some (c_leqSaid.wc E_leqSaid, [4]) := by kernel_rfl
theorem ok_leqSaid : p_leqSaid.Ok PG 27 := mkOk (env_cons ok_leqAsk (env_nil PG)) k_leqSaid (by kernel_rfl)
theorem e_leqSaid (n : Nat) (a0 : Int × Int × Int × Int × Int × Int) (a1 : Int × Int × Int × Int × Int × Int) : f_leqSaid n (a0, a1) =
  bif !decide (a0.1 = a1.1) then
   some (false, ())
  else Option.bind (g_leqAsk ((a0.2.1, a0.2.2.1, a0.2.2.2.1, a0.2.2.2.2.1), (a1.2.1, a1.2.2.1, a1.2.2.2.1, a1.2.2.2.2.1))) fun r0 =>
  bif !r0.1 then
   some (false, ())
  else bif !decide (a0.2.2.2.2.2 = a1.2.2.2.2.2) then
   some (false, ())
  else some (true, ()) := by kernel_rfl
def c_leqSaidS : TC :=
 (.seq (.rg [o1 4 (.lit [.b] [.bool false])])
 (.seq (.seq (.rg [o1 6 (.copy 0),
   o1 7 (.len 6),
   o1 8 (.copy 1),
   o1 9 (.len 8),
   o1 10 (.data (.bin .neq) [.t 7, .t 9])])
 (.cond (.t 10)
  (.seq (.rg [o1 4 (.lit [.b] [.bool false])])
  .ret)
  .skip))
 (.seq (.join [] 134215728 (some [⟨4, [.b], false⟩]) (.seq (.rg [o1 5 (.lit [.i .i64] [.int .i64 (0)])])
 (.block 0 (.loop [⟨5, [.i .i64], false⟩] 134215728
  (.seq (.seq (.rg [o1 11 (.copy 5),
    o1 12 (.copy 0),
    o1 13 (.len 12),
    o1 14 (.data (.bin .lss) [.t 11, .t 13])])
  (.cond (.t 14)
   .skip
   (.exit 0)))
  (.seq (.block 1 (.seq (.rg [o1 17 (.copy 0),
    o1 18 (.copy 5),
    o1 19 (.index 17 (.t 18)),
    o1 20 (.load 17 [(0, 6)] 0 (.t 19) 6 false),
    o1 21 (.copy 1),
    o1 22 (.copy 5),
    o1 23 (.index 21 (.t 22)),
    o1 24 (.load 21 [(0, 6)] 0 (.t 23) 6 false),
    o3 25 27 [.t 20, .t 24],
    o1 26 (.data .not [.t 25])])
  (.cond (.t 26)
   (.seq (.rg [o1 4 (.lit [.b] [.bool false])])
   .ret)
   .skip)))
  (.rg [o1 15 (.copy 5),
    o1 16 (.data (.bin .add) [.t 15, .c (.int .i64 (1))]),
    o1 5 (.copy 16)])))))))
 (.seq (.rg [o1 4 (.lit [.b] [.bool true])])
 .ret))))
def s_leqSaidS : Sig := ⟨[.rd false [.sl (.own none) [.d, .d, .d, .d, .d, .d]], .rd false [.sl (.own none) [.d, .d, .d, .d, .d, .d]]], (.one false [.d])⟩
noncomputable def E_leqSaidS : TEnv := envOf [(27, p_leqSaid)]
noncomputable def f_leqSaidS (n : Nat) : (List (Int × Int × Int × Int × Int × Int)) × (List (Int × Int × Int × Int × Int × Int)) → Option ((Bool) × Unit) := runFn n E_leqSaidS c_leqSaidS [[.sl [.i .i64, .i .i64, .i .i64, .i .i64, .i .i64, .i .i64]], [.sl [.i .i64, .i .i64, .i .i64, .i .i64, .i .i64, .i .i64]]] [.b] [] [4] .no
noncomputable def g_leqSaidS := f_leqSaidS BIG
noncomputable def p_leqSaidS : TSp := ⟨s_leqSaidS, [[.sl [.i .i64, .i .i64, .i .i64, .i .i64, .i .i64, .i .i64]], [.sl [.i .i64, .i .i64, .i .i64, .i .i64, .i .i64, .i .i64]]], [.b], [], Ou.j .no, g_leqSaidS⟩
theorem k_leqSaidS : chkW PG E_leqSaidS 10 s_leqSaidS (c_leqSaidS.ht 27) .no = some (c_leqSaidS.wc E_leqSaidS, [4]) := by kernel_rfl
theorem ok_leqSaidS : p_leqSaidS.Ok PG 10 := mkOk (env_cons ok_leqSaid (env_nil PG)) k_leqSaidS (by kernel_rfl)
theorem e_leqSaidS (n : Nat) (a0 : List (Int × Int × Int × Int × Int × Int)) (a1 : List (Int × Int × Int × Int × Int × Int)) : f_leqSaidS n (a0, a1) =
  bif !decide ((a0.length : Int) = (a1.length : Int)) then
   some (false, ())
  else Option.bind (loopT n (X := Int) (B := (Unit) ⊕ (Bool)) (fun self1 x0 =>
    bif decide (x0 < (a0.length : Int)) then
     bnd a0.length x0 fun n2 =>
     Option.bind a0[n2]? fun y3 =>
     bnd a1.length x0 fun n4 =>
     Option.bind a1[n4]? fun y5 =>
     Option.bind (g_leqSaid (y3, y5)) fun r6 =>
     bif !r6.1 then
      some (Sum.inr false)
     else self1 (IntKind.wrap .i64 (x0 + (1 : Int)))
    else some (Sum.inl ())) (0 : Int) : Option ((Unit) ⊕ (Bool))) fun y => match y with
  | .inl x7 =>
   some (true, ())
  | .inr x7 =>
   some (x7, ()) := by kernel_rfl
def c_leqHead : TC :=
 (.seq (.rg [o1 2 (.a (.t 0)),
   o1 3 (.a (.t 1)),
   o1 4 (.lit [.b] [.bool false])])
 (.seq (.seq (.rg [o1 5 (.idx .nil),
   o1 6 (.load 2 [] 0 (.t 5) 1 false),
   o1 7 (.idx .nil),
   o1 8 (.load 3 [] 0 (.t 7) 1 false),
   o1 9 (.data (.bin .neq) [.t 6, .t 8])])
 (.cond (.t 9)
  (.seq (.rg [o1 4 (.lit [.b] [.bool false])])
  .ret)
  .skip))
 (.seq (.seq (.rg [o1 10 (.idx .nil),
   o1 11 (.load 2 [] 1 (.t 10) 1 false),
   o1 12 (.idx .nil),
   o1 13 (.load 3 [] 1 (.t 12) 1 false),
   o3 14 38 [.t 11, .t 13],
   o1 15 (.data .not [.t 14])])
 (.cond (.t 15)
  (.seq (.rg [o1 4 (.lit [.b] [.bool false])])
  .ret)
  .skip))
 (.seq (.seq (.rg [o1 16 (.idx .nil),
   o1 17 (.load 2 [] 2 (.t 16) 1 false),
   o1 18 (.idx .nil),
   o1 19 (.load 3 [] 2 (.t 18) 1 false),
   o3 20 39 [.t 17, .t 19],
   o1 21 (.data .not [.t 20])])
 (.cond (.t 21)
  (.seq (.rg [o1 4 (.lit [.b] [.bool false])])
  .ret)
  .skip))
 (.seq (.seq (.rg [o1 22 (.idx .nil),
   o1 23 (.load 2 [] 3 (.t 22) 1 false),
   o1 24 (.idx .nil),
   o1 25 (.load 3 [] 3 (.t 24) 1 false),
   o3 26 40 [.t 23, .t 25],
   o1 27 (.data .not [.t 26])])
 (.cond (.t 27)
  (.seq (.rg [o1 4 (.lit [.b] [.bool false])])
  .ret)
  .skip))
 (.seq (.seq (.rg [o1 28 (.idx .nil),
   o1 29 (.load 2 [] 4 (.t 28) 1 false),
   o1 30 (.idx .nil),
   o1 31 (.load 3 [] 4 (.t 30) 1 false),
   o3 32 38 [.t 29, .t 31],
   o1 33 (.data .not [.t 32])])
 (.cond (.t 33)
  (.seq (.rg [o1 4 (.lit [.b] [.bool false])])
  .ret)
  .skip))
 (.seq (.seq (.rg [o1 34 (.idx .nil),
   o1 35 (.load 2 [] 5 (.t 34) 9 false),
   o1 36 (.idx .nil),
   o1 37 (.load 3 [] 5 (.t 36) 9 false),
   o3 38 41 [.t 35, .t 37],
   o1 39 (.data .not [.t 38])])
 (.cond (.t 39)
  (.seq (.rg [o1 4 (.lit [.b] [.bool false])])
  .ret)
  .skip))
 (.seq (.seq (.rg [o1 40 (.idx .nil),
   o1 41 (.load 2 [] 14 (.t 40) 1 false),
   o1 42 (.idx .nil),
   o1 43 (.load 3 [] 14 (.t 42) 1 false),
   o3 44 10 [.t 41, .t 43],
   o1 45 (.data .not [.t 44])])
 (.cond (.t 45)
  (.seq (.rg [o1 4 (.lit [.b] [.bool false])])
  .ret)
  .skip))
 (.seq (.rg [o1 4 (.lit [.b] [.bool true])])
 .ret)))))))))
def s_leqHead : Sig := ⟨[.rd true [.d, .sl (.own none) [.d], .sl (.own none) [.d, .d], .sl (.own none) [.sl (.own none) [.d]], .sl (.own none) [.d], .d, .d, .d, .d, .d, .d, .d, .sl (.own none) [.d, .d], .d, .sl (.own none) [.d, .d, .d, .d, .d, .d]], .rd true [.d, .sl (.own none) [.d], .sl (.own none) [.d, .d], .sl (.own none) [.sl (.own none) [.d]], .sl (.own none) [.d], .d, .d, .d, .d, .d, .d, .d, .sl (.own none) [.d, .d], .d, .sl (.own none) [.d, .d, .d, .d, .d, .d]]], (.one false [.d])⟩
noncomputable def E_leqHead : TEnv := envOf [(38, p_leqIntS), (39, p_leqEdgeS), (40, p_leqIntSS), (41, p_leqTask), (10, p_leqSaidS)]
noncomputable def f_leqHead (n : Nat) : (Int × List (Int) × List (Int × Int) × List (List (Int)) × List (Int) × Int × Int × Int × Int × Int × Int × Int × List (Int × Int) × Int × List (Int × Int × Int × Int × Int × Int)) × (Int × List (Int) × List (Int × Int) × List (List (Int)) × List (Int) × Int × Int × Int × Int × Int × Int × Int × List (Int × Int) × Int × List (Int × Int × Int × Int × Int × Int)) → Option ((Bool) × Unit) := runFn n E_leqHead c_leqHead [[.i .i64, .sl [.i .i64], .sl [.i .i64, .i .i64], .sl [.sl [.i .i64]], .sl [.i .i64], .i .i64, .i .i64, .i .i64, .i .i64, .i .i64, .i .i64, .i .i64, .sl [.i .i64, .i .i64], .i .i64, .sl [.i .i64, .i .i64, .i .i64, .i .i64, .i .i64, .i .i64]], [.i .i64, .sl [.i .i64], .sl [.i .i64, .i .i64], .sl [.sl [.i .i64]], .sl [.i .i64], .i .i64, .i .i64, .i .i64, .i .i64, .i .i64, .i .i64, .i .i64, .sl [.i .i64, .i .i64], .i .i64, .sl [.i .i64, .i .i64, .i .i64, .i .i64, .i .i64, .i .i64]]] [.b] [] [4] .no
noncomputable def g_leqHead := f_leqHead BIG
noncomputable def p_leqHead : TSp := ⟨s_leqHead, [[.i .i64, .sl [.i .i64], .sl [.i .i64, .i .i64], .sl [.sl [.i .i64]], .sl [.i .i64], .i .i64, .i .i64, .i .i64, .i .i64, .i .i64, .i .i64, .i .i64, .sl [.i .i64, .i .i64], .i .i64, .sl [.i .i64, .i .i64, .i .i64, .i .i64, .i .i64, .i .i64]], [.i .i64, .sl [.i .i64], .sl [.i .i64, .i .i64], .sl [.sl [.i .i64]], .sl [.i .i64], .i .i64, .i .i64, .i .i64, .i .i64, .i .i64, .i .i64, .i .i64, .sl [.i .i64, .i .i64], .i .i64, .sl [.i .i64, .i .i64, .i .i64, .i .i64, .i .i64, .i .i64]]], [.b], [], Ou.j .no, g_leqHead⟩
theorem k_leqHead : chkW PG E_leqHead 17 s_leqHead (c_leqHead.ht 46) .no = some (c_leqHead.wc E_leqHead, [4]) := by kernel_rfl
theorem ok_leqHead : p_leqHead.Ok PG 17 := mkOk (env_cons ok_leqIntS (env_cons ok_leqEdgeS (env_cons ok_leqIntSS (env_cons ok_leqTask (env_cons ok_leqSaidS (env_nil PG)))))) k_leqHead (by kernel_rfl)
theorem e_leqHead (n : Nat) (a0 : Int × List (Int) × List (Int × Int) × List ((List (Int))) × List (Int) × Int × Int × Int × Int × Int × Int × Int × List (Int × Int) × Int × List (Int × Int × Int × Int × Int × Int)) (a1 : Int × List (Int) × List (Int × Int) × List ((List (Int))) × List (Int) × Int × Int × Int × Int × Int × Int × Int × List (Int × Int) × Int × List (Int × Int × Int × Int × Int × Int)) : f_leqHead n (a0, a1) =
  bif !decide (a0.1 = a1.1) then
   some (false, ())
  else Option.bind (g_leqIntS (a0.2.1, a1.2.1)) fun r0 =>
  bif !r0.1 then
   some (false, ())
  else Option.bind (g_leqEdgeS (a0.2.2.1, a1.2.2.1)) fun r1 =>
  bif !r1.1 then
   some (false, ())
  else Option.bind (g_leqIntSS (a0.2.2.2.1, a1.2.2.2.1)) fun r2 =>
  bif !r2.1 then
   some (false, ())
  else Option.bind (g_leqIntS (a0.2.2.2.2.1, a1.2.2.2.2.1)) fun r3 =>
  bif !r3.1 then
   some (false, ())
  else Option.bind (g_leqTask ((a0.2.2.2.2.2.1, a0.2.2.2.2.2.2.1, a0.2.2.2.2.2.2.2.1, a0.2.2.2.2.2.2.2.2.1, a0.2.2.2.2.2.2.2.2.2.1, a0.2.2.2.2.2.2.2.2.2.2.1, a0.2.2.2.2.2.2.2.2.2.2.2.1, a0.2.2.2.2.2.2.2.2.2.2.2.2.1, a0.2.2.2.2.2.2.2.2.2.2.2.2.2.1), (a1.2.2.2.2.2.1, a1.2.2.2.2.2.2.1, a1.2.2.2.2.2.2.2.1, a1.2.2.2.2.2.2.2.2.1, a1.2.2.2.2.2.2.2.2.2.1, a1.2.2.2.2.2.2.2.2.2.2.1, a1.2.2.2.2.2.2.2.2.2.2.2.1, a1.2.2.2.2.2.2.2.2.2.2.2.2.1, a1.2.2.2.2.2.2.2.2.2.2.2.2.2.1))) fun r4 =>
  bif !r4.1 then
   some (false, ())
  else Option.bind (g_leqSaidS (a0.2.2.2.2.2.2.2.2.2.2.2.2.2.2, a1.2.2.2.2.2.2.2.2.2.2.2.2.2.2)) fun r5 =>
  bif !r5.1 then
   some (false, ())
  else some (true, ()) := by kernel_rfl
def c_leqLedge : TC :=
 (.seq (.rg [o1 2 (.a (.t 0)),
   o1 3 (.a (.t 1)),
   o1 4 (.lit [.b] [.bool false])])
 (.seq (.seq (.rg [o1 5 (.idx .nil),
   o1 6 (.load 2 [] 0 (.t 5) 1 false),
   o1 7 (.idx .nil),
   o1 8 (.load 3 [] 0 (.t 7) 1 false),
   o1 9 (.data (.bin .neq) [.t 6, .t 8])])
 (.cond (.t 9)
  (.seq (.rg [o1 4 (.lit [.b] [.bool false])])
  .ret)
  .skip))
 (.seq (.seq (.rg [o1 10 (.idx .nil),
   o1 11 (.load 2 [] 1 (.t 10) 1 false),
   o1 12 (.idx .nil),
   o1 13 (.load 3 [] 1 (.t 12) 1 false),
   o1 14 (.data (.bin .neq) [.t 11, .t 13])])
 (.cond (.t 14)
  (.seq (.rg [o1 4 (.lit [.b] [.bool false])])
  .ret)
  .skip))
 (.seq (.seq (.rg [o1 15 (.idx .nil),
   o1 16 (.load 2 [] 2 (.t 15) 1 false),
   o1 17 (.idx .nil),
   o1 18 (.load 3 [] 2 (.t 17) 1 false),
   o1 19 (.data (.bin .neq) [.t 16, .t 18])])
 (.cond (.t 19)
  (.seq (.rg [o1 4 (.lit [.b] [.bool false])])
  .ret)
  .skip))
 (.seq (.seq (.rg [o1 20 (.idx .nil),
   o1 21 (.load 2 [] 3 (.t 20) 1 false),
   o1 22 (.idx .nil),
   o1 23 (.load 3 [] 3 (.t 22) 1 false),
   o1 24 (.data (.beq true) [.t 21, .t 23])])
 (.cond (.t 24)
  (.seq (.rg [o1 4 (.lit [.b] [.bool false])])
  .ret)
  .skip))
 (.seq (.rg [o1 4 (.lit [.b] [.bool true])])
 .ret))))))
def s_leqLedge : Sig := ⟨[.rd true [.d, .d, .d, .d], .rd true [.d, .d, .d, .d]], (.one false [.d])⟩
noncomputable def E_leqLedge : TEnv := envOf []
noncomputable def f_leqLedge (n : Nat) : (Int × Int × Int × Bool) × (Int × Int × Int × Bool) → Option ((Bool) × Unit) := runFn n E_leqLedge c_leqLedge [[.i .i64, .i .i64, .i .i64, .b], [.i .i64, .i .i64, .i .i64, .b]] [.b] [] [4] .no
noncomputable def g_leqLedge := f_leqLedge BIG
noncomputable def p_leqLedge : TSp := ⟨s_leqLedge, [[.i .i64, .i .i64, .i .i64, .b], [.i .i64, .i .i64, .i .i64, .b]], [.b], [], Ou.j .no, g_leqLedge⟩
theorem k_leqLedge : chkW PG E_leqLedge 199 s_leqLedge (c_leqLedge.ht 25) .no = some (c_leqLedge.wc E_leqLedge, [4]) := by kernel_rfl
theorem ok_leqLedge : p_leqLedge.Ok PG 199 := mkOk (env_nil PG) k_leqLedge (by kernel_rfl)
theorem e_leqLedge (n : Nat) (a0 : Int × Int × Int × Bool) (a1 : Int × Int × Int × Bool) : f_leqLedge n (a0, a1) =
  bif !decide (a0.1 = a1.1) then
   some (false, ())
  else bif !decide (a0.2.1 = a1.2.1) then
   some (false, ())
  else bif !decide (a0.2.2.1 = a1.2.2.1) then
   some (false, ())
  else bif !(a0.2.2.2 == a1.2.2.2) then
   some (false, ())
  else some (true, ()) := by kernel_rfl
def c_leqLedgeS : TC :=
 (.seq (.rg [o1 4 (.lit [.b] [.bool false])])
 (.seq (.seq (.rg [o1 6 (.copy 0),
   o1 7 (.len 6),
   o1 8 (.copy 1),
   o1 9 (.len 8),
   o1 10 (.data (.bin .neq) [.t 7, .t 9])])
 (.cond (.t 10)
  (.seq (.rg [o1 4 (.lit [.b] [.bool false])])
  .ret)
  .skip))
 (.seq (.join [] 134215728 (some [⟨4, [.b], false⟩]) (.seq (.rg [o1 5 (.lit [.i .i64] [.int .i64 (0)])])
 (.block 0 (.loop [⟨5, [.i .i64], false⟩] 134215728
  (.seq (.seq (.rg [o1 11 (.copy 5),
    o1 12 (.copy 0),
    o1 13 (.len 12),
    o1 14 (.data (.bin .lss) [.t 11, .t 13])])
  (.cond (.t 14)
   .skip
   (.exit 0)))
  (.seq (.block 1 (.seq (.rg [o1 17 (.copy 0),
    o1 18 (.copy 5),
    o1 19 (.index 17 (.t 18)),
    o1 20 (.load 17 [(0, 4)] 0 (.t 19) 4 false),
    o1 21 (.copy 1),
    o1 22 (.copy 5),
    o1 23 (.index 21 (.t 22)),
    o1 24 (.load 21 [(0, 4)] 0 (.t 23) 4 false),
    o3 25 199 [.t 20, .t 24],
    o1 26 (.data .not [.t 25])])
  (.cond (.t 26)
   (.seq (.rg [o1 4 (.lit [.b] [.bool false])])
   .ret)
   .skip)))
  (.rg [o1 15 (.copy 5),
    o1 16 (.data (.bin .add) [.t 15, .c (.int .i64 (1))]),
    o1 5 (.copy 16)])))))))
 (.seq (.rg [o1 4 (.lit [.b] [.bool true])])
 .ret))))
def s_leqLedgeS : Sig := ⟨[.rd false [.sl (.own none) [.d, .d, .d, .d]], .rd false [.sl (.own none) [.d, .d, .d, .d]]], (.one false [.d])⟩
noncomputable def E_leqLedgeS : TEnv := envOf [(199, p_leqLedge)]
noncomputable def f_leqLedgeS (n : Nat) : (List (Int × Int × Int × Bool)) × (List (Int × Int × Int × Bool)) → Option ((Bool) × Unit) := runFn n E_leqLedgeS c_leqLedgeS [[.sl [.i .i64, .i .i64, .i .i64, .b]], [.sl [.i .i64, .i .i64, .i .i64, .b]]] [.b] [] [4] .no
noncomputable def g_leqLedgeS := f_leqLedgeS BIG
noncomputable def p_leqLedgeS : TSp := ⟨s_leqLedgeS, [[.sl [.i .i64, .i .i64, .i .i64, .b]], [.sl [.i .i64, .i .i64, .i .i64, .b]]], [.b], [], Ou.j .no, g_leqLedgeS⟩
theorem k_leqLedgeS : chkW PG E_leqLedgeS 195 s_leqLedgeS (c_leqLedgeS.ht 27) .no = some (c_leqLedgeS.wc E_leqLedgeS, [4]) := by kernel_rfl
theorem ok_leqLedgeS : p_leqLedgeS.Ok PG 195 := mkOk (env_cons ok_leqLedge (env_nil PG)) k_leqLedgeS (by kernel_rfl)
theorem e_leqLedgeS (n : Nat) (a0 : List (Int × Int × Int × Bool)) (a1 : List (Int × Int × Int × Bool)) : f_leqLedgeS n (a0, a1) =
  bif !decide ((a0.length : Int) = (a1.length : Int)) then
   some (false, ())
  else Option.bind (loopT n (X := Int) (B := (Unit) ⊕ (Bool)) (fun self1 x0 =>
    bif decide (x0 < (a0.length : Int)) then
     bnd a0.length x0 fun n2 =>
     Option.bind a0[n2]? fun y3 =>
     bnd a1.length x0 fun n4 =>
     Option.bind a1[n4]? fun y5 =>
     Option.bind (g_leqLedge (y3, y5)) fun r6 =>
     bif !r6.1 then
      some (Sum.inr false)
     else self1 (IntKind.wrap .i64 (x0 + (1 : Int)))
    else some (Sum.inl ())) (0 : Int) : Option ((Unit) ⊕ (Bool))) fun y => match y with
  | .inl x7 =>
   some (true, ())
  | .inr x7 =>
   some (x7, ()) := by kernel_rfl
def c_leqWeb : TC :=
 (.seq (.rg [o1 2 (.a (.t 0)),
   o1 3 (.a (.t 1)),
   o1 4 (.lit [.b] [.bool false])])
 (.seq (.seq (.rg [o1 5 (.idx .nil),
   o1 6 (.load 2 [] 0 (.t 5) 1 false),
   o1 7 (.idx .nil),
   o1 8 (.load 3 [] 0 (.t 7) 1 false),
   o1 9 (.data (.bin .neq) [.t 6, .t 8])])
 (.cond (.t 9)
  (.seq (.rg [o1 4 (.lit [.b] [.bool false])])
  .ret)
  .skip))
 (.seq (.seq (.rg [o1 10 (.idx .nil),
   o1 11 (.load 2 [] 1 (.t 10) 1 false),
   o1 12 (.idx .nil),
   o1 13 (.load 3 [] 1 (.t 12) 1 false),
   o3 14 195 [.t 11, .t 13],
   o1 15 (.data .not [.t 14])])
 (.cond (.t 15)
  (.seq (.rg [o1 4 (.lit [.b] [.bool false])])
  .ret)
  .skip))
 (.seq (.rg [o1 4 (.lit [.b] [.bool true])])
 .ret))))
def s_leqWeb : Sig := ⟨[.rd true [.d, .sl (.own none) [.d, .d, .d, .d]], .rd true [.d, .sl (.own none) [.d, .d, .d, .d]]], (.one false [.d])⟩
noncomputable def E_leqWeb : TEnv := envOf [(195, p_leqLedgeS)]
noncomputable def f_leqWeb (n : Nat) : (Int × List (Int × Int × Int × Bool)) × (Int × List (Int × Int × Int × Bool)) → Option ((Bool) × Unit) := runFn n E_leqWeb c_leqWeb [[.i .i64, .sl [.i .i64, .i .i64, .i .i64, .b]], [.i .i64, .sl [.i .i64, .i .i64, .i .i64, .b]]] [.b] [] [4] .no
noncomputable def g_leqWeb := f_leqWeb BIG
noncomputable def p_leqWeb : TSp := ⟨s_leqWeb, [[.i .i64, .sl [.i .i64, .i .i64, .i .i64, .b]], [.i .i64, .sl [.i .i64, .i .i64, .i .i64, .b]]], [.b], [], Ou.j .no, g_leqWeb⟩
theorem k_leqWeb : chkW PG E_leqWeb 182 s_leqWeb (c_leqWeb.ht 16) .no = some (c_leqWeb.wc E_leqWeb, [4]) := by kernel_rfl
theorem ok_leqWeb : p_leqWeb.Ok PG 182 := mkOk (env_cons ok_leqLedgeS (env_nil PG)) k_leqWeb (by kernel_rfl)
theorem e_leqWeb (n : Nat) (a0 : Int × List (Int × Int × Int × Bool)) (a1 : Int × List (Int × Int × Int × Bool)) : f_leqWeb n (a0, a1) =
  bif !decide (a0.1 = a1.1) then
   some (false, ())
  else Option.bind (g_leqLedgeS (a0.2, a1.2)) fun r0 =>
  bif !r0.1 then
   some (false, ())
  else some (true, ()) := by kernel_rfl
def c_leqAnswer : TC :=
 (.seq (.rg [o1 2 (.a (.t 0)),
   o1 3 (.a (.t 1)),
   o1 4 (.lit [.b] [.bool false])])
 (.seq (.seq (.rg [o1 5 (.idx .nil),
   o1 6 (.load 2 [] 0 (.t 5) 1 false),
   o1 7 (.idx .nil),
   o1 8 (.load 3 [] 0 (.t 7) 1 false),
   o1 9 (.data (.bin .neq) [.t 6, .t 8])])
 (.cond (.t 9)
  (.seq (.rg [o1 4 (.lit [.b] [.bool false])])
  .ret)
  .skip))
 (.seq (.seq (.rg [o1 10 (.idx .nil),
   o1 11 (.load 2 [] 1 (.t 10) 1 false),
   o1 12 (.idx .nil),
   o1 13 (.load 3 [] 1 (.t 12) 1 false),
   o1 14 (.data (.beq true) [.t 11, .t 13])])
 (.cond (.t 14)
  (.seq (.rg [o1 4 (.lit [.b] [.bool false])])
  .ret)
  .skip))
 (.seq (.seq (.rg [o1 15 (.idx .nil),
   o1 16 (.load 2 [] 2 (.t 15) 1 false),
   o1 17 (.idx .nil),
   o1 18 (.load 3 [] 2 (.t 17) 1 false),
   o3 19 39 [.t 16, .t 18],
   o1 20 (.data .not [.t 19])])
 (.cond (.t 20)
  (.seq (.rg [o1 4 (.lit [.b] [.bool false])])
  .ret)
  .skip))
 (.seq (.seq (.rg [o1 21 (.idx .nil),
   o1 22 (.load 2 [] 3 (.t 21) 1 false),
   o1 23 (.idx .nil),
   o1 24 (.load 3 [] 3 (.t 23) 1 false),
   o3 25 38 [.t 22, .t 24],
   o1 26 (.data .not [.t 25])])
 (.cond (.t 26)
  (.seq (.rg [o1 4 (.lit [.b] [.bool false])])
  .ret)
  .skip))
 (.seq (.rg [o1 4 (.lit [.b] [.bool true])])
 .ret))))))
def s_leqAnswer : Sig := ⟨[.rd true [.d, .d, .sl (.own none) [.d, .d], .sl (.own none) [.d]], .rd true [.d, .d, .sl (.own none) [.d, .d], .sl (.own none) [.d]]], (.one false [.d])⟩
noncomputable def E_leqAnswer : TEnv := envOf [(39, p_leqEdgeS), (38, p_leqIntS)]
noncomputable def f_leqAnswer (n : Nat) : (Int × Bool × List (Int × Int) × List (Int)) × (Int × Bool × List (Int × Int) × List (Int)) → Option ((Bool) × Unit) := runFn n E_leqAnswer c_leqAnswer [[.i .i64, .b, .sl [.i .i64, .i .i64], .sl [.i .i64]], [.i .i64, .b, .sl [.i .i64, .i .i64], .sl [.i .i64]]] [.b] [] [4] .no
noncomputable def g_leqAnswer := f_leqAnswer BIG
noncomputable def p_leqAnswer : TSp := ⟨s_leqAnswer, [[.i .i64, .b, .sl [.i .i64, .i .i64], .sl [.i .i64]], [.i .i64, .b, .sl [.i .i64, .i .i64], .sl [.i .i64]]], [.b], [], Ou.j .no, g_leqAnswer⟩
theorem k_leqAnswer : chkW PG E_leqAnswer 87 s_leqAnswer (c_leqAnswer.ht 27) .no = some (c_leqAnswer.wc E_leqAnswer, [4]) := by kernel_rfl
theorem ok_leqAnswer : p_leqAnswer.Ok PG 87 := mkOk (env_cons ok_leqEdgeS (env_cons ok_leqIntS (env_nil PG))) k_leqAnswer (by kernel_rfl)
theorem e_leqAnswer (n : Nat) (a0 : Int × Bool × List (Int × Int) × List (Int)) (a1 : Int × Bool × List (Int × Int) × List (Int)) : f_leqAnswer n (a0, a1) =
  bif !decide (a0.1 = a1.1) then
   some (false, ())
  else bif !(a0.2.1 == a1.2.1) then
   some (false, ())
  else Option.bind (g_leqEdgeS (a0.2.2.1, a1.2.2.1)) fun r0 =>
  bif !r0.1 then
   some (false, ())
  else Option.bind (g_leqIntS (a0.2.2.2, a1.2.2.2)) fun r1 =>
  bif !r1.1 then
   some (false, ())
  else some (true, ()) := by kernel_rfl
def c_leqShard : TC :=
 (.seq (.rg [o1 2 (.a (.t 0)),
   o1 3 (.a (.t 1)),
   o1 4 (.lit [.b] [.bool false])])
 (.seq (.seq (.rg [o1 5 (.idx .nil),
   o1 6 (.load 2 [] 0 (.t 5) 1 false),
   o1 7 (.idx .nil),
   o1 8 (.load 3 [] 0 (.t 7) 1 false),
   o1 9 (.data (.bin .neq) [.t 6, .t 8])])
 (.cond (.t 9)
  (.seq (.rg [o1 4 (.lit [.b] [.bool false])])
  .ret)
  .skip))
 (.seq (.seq (.rg [o1 10 (.idx .nil),
   o1 11 (.load 2 [] 1 (.t 10) 2 false),
   o1 12 (.idx .nil),
   o1 13 (.load 3 [] 1 (.t 12) 2 false),
   o3 14 182 [.t 11, .t 13],
   o1 15 (.data .not [.t 14])])
 (.cond (.t 15)
  (.seq (.rg [o1 4 (.lit [.b] [.bool false])])
  .ret)
  .skip))
 (.seq (.seq (.rg [o1 16 (.idx .nil),
   o1 17 (.load 2 [] 3 (.t 16) 4 false),
   o1 18 (.idx .nil),
   o1 19 (.load 3 [] 3 (.t 18) 4 false),
   o3 20 87 [.t 17, .t 19],
   o1 21 (.data .not [.t 20])])
 (.cond (.t 21)
  (.seq (.rg [o1 4 (.lit [.b] [.bool false])])
  .ret)
  .skip))
 (.seq (.rg [o1 4 (.lit [.b] [.bool true])])
 .ret)))))
def s_leqShard : Sig := ⟨[.rd true [.d, .d, .sl (.own none) [.d, .d, .d, .d], .d, .d, .sl (.own none) [.d, .d], .sl (.own none) [.d]], .rd true [.d, .d, .sl (.own none) [.d, .d, .d, .d], .d, .d, .sl (.own none) [.d, .d], .sl (.own none) [.d]]], (.one false [.d])⟩
noncomputable def E_leqShard : TEnv := envOf [(182, p_leqWeb), (87, p_leqAnswer)]
noncomputable def f_leqShard (n : Nat) : (Int × Int × List (Int × Int × Int × Bool) × Int × Bool × List (Int × Int) × List (Int)) × (Int × Int × List (Int × Int × Int × Bool) × Int × Bool × List (Int × Int) × List (Int)) → Option ((Bool) × Unit) := runFn n E_leqShard c_leqShard [[.i .i64, .i .i64, .sl [.i .i64, .i .i64, .i .i64, .b], .i .i64, .b, .sl [.i .i64, .i .i64], .sl [.i .i64]], [.i .i64, .i .i64, .sl [.i .i64, .i .i64, .i .i64, .b], .i .i64, .b, .sl [.i .i64, .i .i64], .sl [.i .i64]]] [.b] [] [4] .no
noncomputable def g_leqShard := f_leqShard BIG
noncomputable def p_leqShard : TSp := ⟨s_leqShard, [[.i .i64, .i .i64, .sl [.i .i64, .i .i64, .i .i64, .b], .i .i64, .b, .sl [.i .i64, .i .i64], .sl [.i .i64]], [.i .i64, .i .i64, .sl [.i .i64, .i .i64, .i .i64, .b], .i .i64, .b, .sl [.i .i64, .i .i64], .sl [.i .i64]]], [.b], [], Ou.j .no, g_leqShard⟩
theorem k_leqShard : chkW PG E_leqShard 144 s_leqShard (c_leqShard.ht 22) .no = some (c_leqShard.wc E_leqShard, [4]) := by kernel_rfl
theorem ok_leqShard : p_leqShard.Ok PG 144 := mkOk (env_cons ok_leqWeb (env_cons ok_leqAnswer (env_nil PG))) k_leqShard (by kernel_rfl)
theorem e_leqShard (n : Nat) (a0 : Int × Int × List (Int × Int × Int × Bool) × Int × Bool × List (Int × Int) × List (Int)) (a1 : Int × Int × List (Int × Int × Int × Bool) × Int × Bool × List (Int × Int) × List (Int)) : f_leqShard n (a0, a1) =
  bif !decide (a0.1 = a1.1) then
   some (false, ())
  else Option.bind (g_leqWeb ((a0.2.1, a0.2.2.1), (a1.2.1, a1.2.2.1))) fun r0 =>
  bif !r0.1 then
   some (false, ())
  else Option.bind (g_leqAnswer (a0.2.2.2, a1.2.2.2)) fun r1 =>
  bif !r1.1 then
   some (false, ())
  else some (true, ()) := by kernel_rfl
def c_leqShardS : TC :=
 (.seq (.rg [o1 4 (.lit [.b] [.bool false])])
 (.seq (.seq (.rg [o1 6 (.copy 0),
   o1 7 (.len 6),
   o1 8 (.copy 1),
   o1 9 (.len 8),
   o1 10 (.data (.bin .neq) [.t 7, .t 9])])
 (.cond (.t 10)
  (.seq (.rg [o1 4 (.lit [.b] [.bool false])])
  .ret)
  .skip))
 (.seq (.join [] 134215728 (some [⟨4, [.b], false⟩]) (.seq (.rg [o1 5 (.lit [.i .i64] [.int .i64 (0)])])
 (.block 0 (.loop [⟨5, [.i .i64], false⟩] 134215728
  (.seq (.seq (.rg [o1 11 (.copy 5),
    o1 12 (.copy 0),
    o1 13 (.len 12),
    o1 14 (.data (.bin .lss) [.t 11, .t 13])])
  (.cond (.t 14)
   .skip
   (.exit 0)))
  (.seq (.block 1 (.seq (.rg [o1 17 (.copy 0),
    o1 18 (.copy 5),
    o1 19 (.index 17 (.t 18)),
    o1 20 (.load 17 [(0, 7)] 0 (.t 19) 7 false),
    o1 21 (.copy 1),
    o1 22 (.copy 5),
    o1 23 (.index 21 (.t 22)),
    o1 24 (.load 21 [(0, 7)] 0 (.t 23) 7 false),
    o3 25 144 [.t 20, .t 24],
    o1 26 (.data .not [.t 25])])
  (.cond (.t 26)
   (.seq (.rg [o1 4 (.lit [.b] [.bool false])])
   .ret)
   .skip)))
  (.rg [o1 15 (.copy 5),
    o1 16 (.data (.bin .add) [.t 15, .c (.int .i64 (1))]),
    o1 5 (.copy 16)])))))))
 (.seq (.rg [o1 4 (.lit [.b] [.bool true])])
 .ret))))
def s_leqShardS : Sig := ⟨[.rd false [.sl (.own none) [.d, .d, .sl (.own none) [.d, .d, .d, .d], .d, .d, .sl (.own none) [.d, .d], .sl (.own none) [.d]]], .rd false [.sl (.own none) [.d, .d, .sl (.own none) [.d, .d, .d, .d], .d, .d, .sl (.own none) [.d, .d], .sl (.own none) [.d]]]], (.one false [.d])⟩
noncomputable def E_leqShardS : TEnv := envOf [(144, p_leqShard)]
noncomputable def f_leqShardS (n : Nat) : (List (Int × Int × List (Int × Int × Int × Bool) × Int × Bool × List (Int × Int) × List (Int))) × (List (Int × Int × List (Int × Int × Int × Bool) × Int × Bool × List (Int × Int) × List (Int))) → Option ((Bool) × Unit) := runFn n E_leqShardS c_leqShardS [[.sl [.i .i64, .i .i64, .sl [.i .i64, .i .i64, .i .i64, .b], .i .i64, .b, .sl [.i .i64, .i .i64], .sl [.i .i64]]], [.sl [.i .i64, .i .i64, .sl [.i .i64, .i .i64, .i .i64, .b], .i .i64, .b, .sl [.i .i64, .i .i64], .sl [.i .i64]]]] [.b] [] [4] .no
noncomputable def g_leqShardS := f_leqShardS BIG
noncomputable def p_leqShardS : TSp := ⟨s_leqShardS, [[.sl [.i .i64, .i .i64, .sl [.i .i64, .i .i64, .i .i64, .b], .i .i64, .b, .sl [.i .i64, .i .i64], .sl [.i .i64]]], [.sl [.i .i64, .i .i64, .sl [.i .i64, .i .i64, .i .i64, .b], .i .i64, .b, .sl [.i .i64, .i .i64], .sl [.i .i64]]]], [.b], [], Ou.j .no, g_leqShardS⟩
theorem k_leqShardS : chkW PG E_leqShardS 76 s_leqShardS (c_leqShardS.ht 27) .no = some (c_leqShardS.wc E_leqShardS, [4]) := by kernel_rfl
theorem ok_leqShardS : p_leqShardS.Ok PG 76 := mkOk (env_cons ok_leqShard (env_nil PG)) k_leqShardS (by kernel_rfl)
theorem e_leqShardS (n : Nat) (a0 : List (Int × Int × (List (Int × Int × Int × Bool)) × Int × Bool × (List (Int × Int)) × (List (Int)))) (a1 : List (Int × Int × (List (Int × Int × Int × Bool)) × Int × Bool × (List (Int × Int)) × (List (Int)))) : f_leqShardS n (a0, a1) =
  bif !decide ((a0.length : Int) = (a1.length : Int)) then
   some (false, ())
  else Option.bind (loopT n (X := Int) (B := (Unit) ⊕ (Bool)) (fun self1 x0 =>
    bif decide (x0 < (a0.length : Int)) then
     bnd a0.length x0 fun n2 =>
     Option.bind a0[n2]? fun y3 =>
     bnd a1.length x0 fun n4 =>
     Option.bind a1[n4]? fun y5 =>
     Option.bind (g_leqShard (y3, y5)) fun r6 =>
     bif !r6.1 then
      some (Sum.inr false)
     else self1 (IntKind.wrap .i64 (x0 + (1 : Int)))
    else some (Sum.inl ())) (0 : Int) : Option ((Unit) ⊕ (Bool))) fun y => match y with
  | .inl x7 =>
   some (true, ())
  | .inr x7 =>
   some (x7, ()) := by kernel_rfl
def c_leqFile : TC :=
 (.seq (.rg [o1 2 (.a (.t 0)),
   o1 3 (.a (.t 1)),
   o1 4 (.lit [.b] [.bool false])])
 (.seq (.seq (.rg [o1 5 (.idx .nil),
   o1 6 (.load 2 [] 0 (.t 5) 1 false),
   o1 7 (.idx .nil),
   o1 8 (.load 3 [] 0 (.t 7) 1 false),
   o1 9 (.data (.bin .neq) [.t 6, .t 8])])
 (.cond (.t 9)
  (.seq (.rg [o1 4 (.lit [.b] [.bool false])])
  .ret)
  .skip))
 (.seq (.seq (.rg [o1 10 (.idx .nil),
   o1 11 (.load 2 [] 1 (.t 10) 1 false),
   o1 12 (.idx .nil),
   o1 13 (.load 3 [] 1 (.t 12) 1 false),
   o1 14 (.data (.bin .neq) [.t 11, .t 13])])
 (.cond (.t 14)
  (.seq (.rg [o1 4 (.lit [.b] [.bool false])])
  .ret)
  .skip))
 (.seq (.seq (.rg [o1 15 (.idx .nil),
   o1 16 (.load 2 [] 2 (.t 15) 1 false),
   o1 17 (.idx .nil),
   o1 18 (.load 3 [] 2 (.t 17) 1 false),
   o1 19 (.data (.bin .neq) [.t 16, .t 18])])
 (.cond (.t 19)
  (.seq (.rg [o1 4 (.lit [.b] [.bool false])])
  .ret)
  .skip))
 (.seq (.rg [o1 4 (.lit [.b] [.bool true])])
 .ret)))))
def s_leqFile : Sig := ⟨[.rd true [.d, .d, .d], .rd true [.d, .d, .d]], (.one false [.d])⟩
noncomputable def E_leqFile : TEnv := envOf []
noncomputable def f_leqFile (n : Nat) : (ByteArray × ByteArray × Int) × (ByteArray × ByteArray × Int) → Option ((Bool) × Unit) := runFn n E_leqFile c_leqFile [[.s, .s, .i .i64], [.s, .s, .i .i64]] [.b] [] [4] .no
noncomputable def g_leqFile := f_leqFile BIG
noncomputable def p_leqFile : TSp := ⟨s_leqFile, [[.s, .s, .i .i64], [.s, .s, .i .i64]], [.b], [], Ou.j .no, g_leqFile⟩
theorem k_leqFile : chkW PG E_leqFile 196 s_leqFile (c_leqFile.ht 20) .no = some (c_leqFile.wc E_leqFile, [4]) := by kernel_rfl
theorem ok_leqFile : p_leqFile.Ok PG 196 := mkOk (env_nil PG) k_leqFile (by kernel_rfl)
theorem e_leqFile (n : Nat) (a0 : ByteArray × ByteArray × Int) (a1 : ByteArray × ByteArray × Int) : f_leqFile n (a0, a1) =
  bif !(a0.1.toList == a1.1.toList) then
   some (false, ())
  else bif !(a0.2.1.toList == a1.2.1.toList) then
   some (false, ())
  else bif !decide (a0.2.2 = a1.2.2) then
   some (false, ())
  else some (true, ()) := by kernel_rfl
def c_leqFileS : TC :=
 (.seq (.rg [o1 4 (.lit [.b] [.bool false])])
 (.seq (.seq (.rg [o1 6 (.copy 0),
   o1 7 (.len 6),
   o1 8 (.copy 1),
   o1 9 (.len 8),
   o1 10 (.data (.bin .neq) [.t 7, .t 9])])
 (.cond (.t 10)
  (.seq (.rg [o1 4 (.lit [.b] [.bool false])])
  .ret)
  .skip))
 (.seq (.join [] 134215728 (some [⟨4, [.b], false⟩]) (.seq (.rg [o1 5 (.lit [.i .i64] [.int .i64 (0)])])
 (.block 0 (.loop [⟨5, [.i .i64], false⟩] 134215728
  (.seq (.seq (.rg [o1 11 (.copy 5),
    o1 12 (.copy 0),
    o1 13 (.len 12),
    o1 14 (.data (.bin .lss) [.t 11, .t 13])])
  (.cond (.t 14)
   .skip
   (.exit 0)))
  (.seq (.block 1 (.seq (.rg [o1 17 (.copy 0),
    o1 18 (.copy 5),
    o1 19 (.index 17 (.t 18)),
    o1 20 (.load 17 [(0, 3)] 0 (.t 19) 3 false),
    o1 21 (.copy 1),
    o1 22 (.copy 5),
    o1 23 (.index 21 (.t 22)),
    o1 24 (.load 21 [(0, 3)] 0 (.t 23) 3 false),
    o3 25 196 [.t 20, .t 24],
    o1 26 (.data .not [.t 25])])
  (.cond (.t 26)
   (.seq (.rg [o1 4 (.lit [.b] [.bool false])])
   .ret)
   .skip)))
  (.rg [o1 15 (.copy 5),
    o1 16 (.data (.bin .add) [.t 15, .c (.int .i64 (1))]),
    o1 5 (.copy 16)])))))))
 (.seq (.rg [o1 4 (.lit [.b] [.bool true])])
 .ret))))
def s_leqFileS : Sig := ⟨[.rd false [.sl (.own none) [.d, .d, .d]], .rd false [.sl (.own none) [.d, .d, .d]]], (.one false [.d])⟩
noncomputable def E_leqFileS : TEnv := envOf [(196, p_leqFile)]
noncomputable def f_leqFileS (n : Nat) : (List (ByteArray × ByteArray × Int)) × (List (ByteArray × ByteArray × Int)) → Option ((Bool) × Unit) := runFn n E_leqFileS c_leqFileS [[.sl [.s, .s, .i .i64]], [.sl [.s, .s, .i .i64]]] [.b] [] [4] .no
noncomputable def g_leqFileS := f_leqFileS BIG
noncomputable def p_leqFileS : TSp := ⟨s_leqFileS, [[.sl [.s, .s, .i .i64]], [.sl [.s, .s, .i .i64]]], [.b], [], Ou.j .no, g_leqFileS⟩
theorem k_leqFileS : chkW PG E_leqFileS 183 s_leqFileS (c_leqFileS.ht 27) .no = some (c_leqFileS.wc E_leqFileS, [4]) := by kernel_rfl
theorem ok_leqFileS : p_leqFileS.Ok PG 183 := mkOk (env_cons ok_leqFile (env_nil PG)) k_leqFileS (by kernel_rfl)
theorem e_leqFileS (n : Nat) (a0 : List (ByteArray × ByteArray × Int)) (a1 : List (ByteArray × ByteArray × Int)) : f_leqFileS n (a0, a1) =
  bif !decide ((a0.length : Int) = (a1.length : Int)) then
   some (false, ())
  else Option.bind (loopT n (X := Int) (B := (Unit) ⊕ (Bool)) (fun self1 x0 =>
    bif decide (x0 < (a0.length : Int)) then
     bnd a0.length x0 fun n2 =>
     Option.bind a0[n2]? fun y3 =>
     bnd a1.length x0 fun n4 =>
     Option.bind a1[n4]? fun y5 =>
     Option.bind (g_leqFile (y3, y5)) fun r6 =>
     bif !r6.1 then
      some (Sum.inr false)
     else self1 (IntKind.wrap .i64 (x0 + (1 : Int)))
    else some (Sum.inl ())) (0 : Int) : Option ((Unit) ⊕ (Bool))) fun y => match y with
  | .inl x7 =>
   some (true, ())
  | .inr x7 =>
   some (x7, ()) := by kernel_rfl
def c_leqDisk : TC :=
 (.seq (.rg [o1 2 (.a (.t 0)),
   o1 3 (.a (.t 1)),
   o1 4 (.lit [.b] [.bool false])])
 (.seq (.seq (.rg [o1 5 (.idx .nil),
   o1 6 (.load 2 [] 0 (.t 5) 1 false),
   o1 7 (.idx .nil),
   o1 8 (.load 3 [] 0 (.t 7) 1 false),
   o3 9 183 [.t 6, .t 8],
   o1 10 (.data .not [.t 9])])
 (.cond (.t 10)
  (.seq (.rg [o1 4 (.lit [.b] [.bool false])])
  .ret)
  .skip))
 (.seq (.rg [o1 4 (.lit [.b] [.bool true])])
 .ret)))
def s_leqDisk : Sig := ⟨[.rd true [.sl (.own none) [.d, .d, .d]], .rd true [.sl (.own none) [.d, .d, .d]]], (.one false [.d])⟩
noncomputable def E_leqDisk : TEnv := envOf [(183, p_leqFileS)]
noncomputable def f_leqDisk (n : Nat) : (List (ByteArray × ByteArray × Int)) × (List (ByteArray × ByteArray × Int)) → Option ((Bool) × Unit) := runFn n E_leqDisk c_leqDisk [[.sl [.s, .s, .i .i64]], [.sl [.s, .s, .i .i64]]] [.b] [] [4] .no
noncomputable def g_leqDisk := f_leqDisk BIG
noncomputable def p_leqDisk : TSp := ⟨s_leqDisk, [[.sl [.s, .s, .i .i64]], [.sl [.s, .s, .i .i64]]], [.b], [], Ou.j .no, g_leqDisk⟩
theorem k_leqDisk : chkW PG E_leqDisk 145 s_leqDisk (c_leqDisk.ht 11) .no = some (c_leqDisk.wc E_leqDisk, [4]) := by kernel_rfl
theorem ok_leqDisk : p_leqDisk.Ok PG 145 := mkOk (env_cons ok_leqFileS (env_nil PG)) k_leqDisk (by kernel_rfl)
theorem e_leqDisk (n : Nat) (a0 : List (ByteArray × ByteArray × Int)) (a1 : List (ByteArray × ByteArray × Int)) : f_leqDisk n (a0, a1) =
  Option.bind (g_leqFileS (a0, a1)) fun r0 =>
  bif !r0.1 then
   some (false, ())
  else some (true, ()) := by kernel_rfl
def c_leqDiskS : TC :=
 (.seq (.rg [o1 4 (.lit [.b] [.bool false])])
 (.seq (.seq (.rg [o1 6 (.copy 0),
   o1 7 (.len 6),
   o1 8 (.copy 1),
   o1 9 (.len 8),
   o1 10 (.data (.bin .neq) [.t 7, .t 9])])
 (.cond (.t 10)
  (.seq (.rg [o1 4 (.lit [.b] [.bool false])])
  .ret)
  .skip))
 (.seq (.join [] 134215728 (some [⟨4, [.b], false⟩]) (.seq (.rg [o1 5 (.lit [.i .i64] [.int .i64 (0)])])
 (.block 0 (.loop [⟨5, [.i .i64], false⟩] 134215728
  (.seq (.seq (.rg [o1 11 (.copy 5),
    o1 12 (.copy 0),
    o1 13 (.len 12),
    o1 14 (.data (.bin .lss) [.t 11, .t 13])])
  (.cond (.t 14)
   .skip
   (.exit 0)))
  (.seq (.block 1 (.seq (.rg [o1 17 (.copy 0),
    o1 18 (.copy 5),
    o1 19 (.index 17 (.t 18)),
    o1 20 (.load 17 [(0, 1)] 0 (.t 19) 1 false),
    o1 21 (.copy 1),
    o1 22 (.copy 5),
    o1 23 (.index 21 (.t 22)),
    o1 24 (.load 21 [(0, 1)] 0 (.t 23) 1 false),
    o3 25 145 [.t 20, .t 24],
    o1 26 (.data .not [.t 25])])
  (.cond (.t 26)
   (.seq (.rg [o1 4 (.lit [.b] [.bool false])])
   .ret)
   .skip)))
  (.rg [o1 15 (.copy 5),
    o1 16 (.data (.bin .add) [.t 15, .c (.int .i64 (1))]),
    o1 5 (.copy 16)])))))))
 (.seq (.rg [o1 4 (.lit [.b] [.bool true])])
 .ret))))
def s_leqDiskS : Sig := ⟨[.rd false [.sl (.own none) [.sl (.own none) [.d, .d, .d]]], .rd false [.sl (.own none) [.sl (.own none) [.d, .d, .d]]]], (.one false [.d])⟩
noncomputable def E_leqDiskS : TEnv := envOf [(145, p_leqDisk)]
noncomputable def f_leqDiskS (n : Nat) : (List (List (ByteArray × ByteArray × Int))) × (List (List (ByteArray × ByteArray × Int))) → Option ((Bool) × Unit) := runFn n E_leqDiskS c_leqDiskS [[.sl [.sl [.s, .s, .i .i64]]], [.sl [.sl [.s, .s, .i .i64]]]] [.b] [] [4] .no
noncomputable def g_leqDiskS := f_leqDiskS BIG
noncomputable def p_leqDiskS : TSp := ⟨s_leqDiskS, [[.sl [.sl [.s, .s, .i .i64]]], [.sl [.sl [.s, .s, .i .i64]]]], [.b], [], Ou.j .no, g_leqDiskS⟩
theorem k_leqDiskS : chkW PG E_leqDiskS 77 s_leqDiskS (c_leqDiskS.ht 27) .no = some (c_leqDiskS.wc E_leqDiskS, [4]) := by kernel_rfl
theorem ok_leqDiskS : p_leqDiskS.Ok PG 77 := mkOk (env_cons ok_leqDisk (env_nil PG)) k_leqDiskS (by kernel_rfl)
theorem e_leqDiskS (n : Nat) (a0 : List ((List (ByteArray × ByteArray × Int)))) (a1 : List ((List (ByteArray × ByteArray × Int)))) : f_leqDiskS n (a0, a1) =
  bif !decide ((a0.length : Int) = (a1.length : Int)) then
   some (false, ())
  else Option.bind (loopT n (X := Int) (B := (Unit) ⊕ (Bool)) (fun self1 x0 =>
    bif decide (x0 < (a0.length : Int)) then
     bnd a0.length x0 fun n2 =>
     Option.bind a0[n2]? fun y3 =>
     bnd a1.length x0 fun n4 =>
     Option.bind a1[n4]? fun y5 =>
     Option.bind (g_leqDisk (y3, y5)) fun r6 =>
     bif !r6.1 then
      some (Sum.inr false)
     else self1 (IntKind.wrap .i64 (x0 + (1 : Int)))
    else some (Sum.inl ())) (0 : Int) : Option ((Unit) ⊕ (Bool))) fun y => match y with
  | .inl x7 =>
   some (true, ())
  | .inr x7 =>
   some (x7, ()) := by kernel_rfl
def c_leqBoolS : TC :=
 (.seq (.rg [o1 4 (.lit [.b] [.bool false])])
 (.seq (.seq (.rg [o1 6 (.copy 0),
   o1 7 (.len 6),
   o1 8 (.copy 1),
   o1 9 (.len 8),
   o1 10 (.data (.bin .neq) [.t 7, .t 9])])
 (.cond (.t 10)
  (.seq (.rg [o1 4 (.lit [.b] [.bool false])])
  .ret)
  .skip))
 (.seq (.join [] 67106864 (some [⟨4, [.b], false⟩]) (.seq (.rg [o1 5 (.lit [.i .i64] [.int .i64 (0)])])
 (.block 0 (.loop [⟨5, [.i .i64], false⟩] 67106864
  (.seq (.seq (.rg [o1 11 (.copy 5),
    o1 12 (.copy 0),
    o1 13 (.len 12),
    o1 14 (.data (.bin .lss) [.t 11, .t 13])])
  (.cond (.t 14)
   .skip
   (.exit 0)))
  (.seq (.block 1 (.seq (.rg [o1 17 (.copy 0),
    o1 18 (.copy 5),
    o1 19 (.index 17 (.t 18)),
    o1 20 (.load 17 [(0, 1)] 0 (.t 19) 1 false),
    o1 21 (.copy 1),
    o1 22 (.copy 5),
    o1 23 (.index 21 (.t 22)),
    o1 24 (.load 21 [(0, 1)] 0 (.t 23) 1 false),
    o1 25 (.data (.beq true) [.t 20, .t 24])])
  (.cond (.t 25)
   (.seq (.rg [o1 4 (.lit [.b] [.bool false])])
   .ret)
   .skip)))
  (.rg [o1 15 (.copy 5),
    o1 16 (.data (.bin .add) [.t 15, .c (.int .i64 (1))]),
    o1 5 (.copy 16)])))))))
 (.seq (.rg [o1 4 (.lit [.b] [.bool true])])
 .ret))))
def s_leqBoolS : Sig := ⟨[.rd false [.sl (.own none) [.d]], .rd false [.sl (.own none) [.d]]], (.one false [.d])⟩
noncomputable def E_leqBoolS : TEnv := envOf []
noncomputable def f_leqBoolS (n : Nat) : List (Bool) × List (Bool) → Option ((Bool) × Unit) := runFn n E_leqBoolS c_leqBoolS [[.sl [.b]], [.sl [.b]]] [.b] [] [4] .no
noncomputable def g_leqBoolS := f_leqBoolS BIG
noncomputable def p_leqBoolS : TSp := ⟨s_leqBoolS, [[.sl [.b]], [.sl [.b]]], [.b], [], Ou.j .no, g_leqBoolS⟩
theorem k_leqBoolS : chkW PG E_leqBoolS 78 s_leqBoolS (c_leqBoolS.ht 26) .no = some (c_leqBoolS.wc E_leqBoolS, [4]) := by kernel_rfl
theorem ok_leqBoolS : p_leqBoolS.Ok PG 78 := mkOk (env_nil PG) k_leqBoolS (by kernel_rfl)
theorem e_leqBoolS (n : Nat) (a0 : List (Bool)) (a1 : List (Bool)) : f_leqBoolS n (a0, a1) =
  bif !decide ((a0.length : Int) = (a1.length : Int)) then
   some (false, ())
  else Option.bind (loopT n (X := Int) (B := (Unit) ⊕ (Bool)) (fun self1 x0 =>
    bif decide (x0 < (a0.length : Int)) then
     bnd a0.length x0 fun n2 =>
     Option.bind a0[n2]? fun y3 =>
     bnd a1.length x0 fun n4 =>
     Option.bind a1[n4]? fun y5 =>
     bif !(y3 == y5) then
      some (Sum.inr false)
     else self1 (IntKind.wrap .i64 (x0 + (1 : Int)))
    else some (Sum.inl ())) (0 : Int) : Option ((Unit) ⊕ (Bool))) fun y => match y with
  | .inl x6 =>
   some (true, ())
  | .inr x6 =>
   some (x6, ()) := by kernel_rfl
def c_leqPacket : TC :=
 (.seq (.rg [o1 2 (.a (.t 0)),
   o1 3 (.a (.t 1)),
   o1 4 (.lit [.b] [.bool false])])
 (.seq (.seq (.rg [o1 5 (.idx .nil),
   o1 6 (.load 2 [] 0 (.t 5) 1 false),
   o1 7 (.idx .nil),
   o1 8 (.load 3 [] 0 (.t 7) 1 false),
   o1 9 (.data (.bin .neq) [.t 6, .t 8])])
 (.cond (.t 9)
  (.seq (.rg [o1 4 (.lit [.b] [.bool false])])
  .ret)
  .skip))
 (.seq (.seq (.rg [o1 10 (.idx .nil),
   o1 11 (.load 2 [] 1 (.t 10) 1 false),
   o1 12 (.idx .nil),
   o1 13 (.load 3 [] 1 (.t 12) 1 false),
   o1 14 (.data (.bin .neq) [.t 11, .t 13])])
 (.cond (.t 14)
  (.seq (.rg [o1 4 (.lit [.b] [.bool false])])
  .ret)
  .skip))
 (.seq (.seq (.rg [o1 15 (.idx .nil),
   o1 16 (.load 2 [] 2 (.t 15) 1 false),
   o1 17 (.idx .nil),
   o1 18 (.load 3 [] 2 (.t 17) 1 false),
   o1 19 (.data (.bin .neq) [.t 16, .t 18])])
 (.cond (.t 19)
  (.seq (.rg [o1 4 (.lit [.b] [.bool false])])
  .ret)
  .skip))
 (.seq (.rg [o1 4 (.lit [.b] [.bool true])])
 .ret)))))
def s_leqPacket : Sig := ⟨[.rd true [.d, .d, .d], .rd true [.d, .d, .d]], (.one false [.d])⟩
noncomputable def E_leqPacket : TEnv := envOf []
noncomputable def f_leqPacket (n : Nat) : (Int × Int × ByteArray) × (Int × Int × ByteArray) → Option ((Bool) × Unit) := runFn n E_leqPacket c_leqPacket [[.i .i64, .i .i64, .s], [.i .i64, .i .i64, .s]] [.b] [] [4] .no
noncomputable def g_leqPacket := f_leqPacket BIG
noncomputable def p_leqPacket : TSp := ⟨s_leqPacket, [[.i .i64, .i .i64, .s], [.i .i64, .i .i64, .s]], [.b], [], Ou.j .no, g_leqPacket⟩
theorem k_leqPacket : chkW PG E_leqPacket 146 s_leqPacket (c_leqPacket.ht 20) .no = some (c_leqPacket.wc E_leqPacket, [4]) := by kernel_rfl
theorem ok_leqPacket : p_leqPacket.Ok PG 146 := mkOk (env_nil PG) k_leqPacket (by kernel_rfl)
theorem e_leqPacket (n : Nat) (a0 : Int × Int × ByteArray) (a1 : Int × Int × ByteArray) : f_leqPacket n (a0, a1) =
  bif !decide (a0.1 = a1.1) then
   some (false, ())
  else bif !decide (a0.2.1 = a1.2.1) then
   some (false, ())
  else bif !(a0.2.2.toList == a1.2.2.toList) then
   some (false, ())
  else some (true, ()) := by kernel_rfl
def c_leqPacketS : TC :=
 (.seq (.rg [o1 4 (.lit [.b] [.bool false])])
 (.seq (.seq (.rg [o1 6 (.copy 0),
   o1 7 (.len 6),
   o1 8 (.copy 1),
   o1 9 (.len 8),
   o1 10 (.data (.bin .neq) [.t 7, .t 9])])
 (.cond (.t 10)
  (.seq (.rg [o1 4 (.lit [.b] [.bool false])])
  .ret)
  .skip))
 (.seq (.join [] 134215728 (some [⟨4, [.b], false⟩]) (.seq (.rg [o1 5 (.lit [.i .i64] [.int .i64 (0)])])
 (.block 0 (.loop [⟨5, [.i .i64], false⟩] 134215728
  (.seq (.seq (.rg [o1 11 (.copy 5),
    o1 12 (.copy 0),
    o1 13 (.len 12),
    o1 14 (.data (.bin .lss) [.t 11, .t 13])])
  (.cond (.t 14)
   .skip
   (.exit 0)))
  (.seq (.block 1 (.seq (.rg [o1 17 (.copy 0),
    o1 18 (.copy 5),
    o1 19 (.index 17 (.t 18)),
    o1 20 (.load 17 [(0, 3)] 0 (.t 19) 3 false),
    o1 21 (.copy 1),
    o1 22 (.copy 5),
    o1 23 (.index 21 (.t 22)),
    o1 24 (.load 21 [(0, 3)] 0 (.t 23) 3 false),
    o3 25 146 [.t 20, .t 24],
    o1 26 (.data .not [.t 25])])
  (.cond (.t 26)
   (.seq (.rg [o1 4 (.lit [.b] [.bool false])])
   .ret)
   .skip)))
  (.rg [o1 15 (.copy 5),
    o1 16 (.data (.bin .add) [.t 15, .c (.int .i64 (1))]),
    o1 5 (.copy 16)])))))))
 (.seq (.rg [o1 4 (.lit [.b] [.bool true])])
 .ret))))
def s_leqPacketS : Sig := ⟨[.rd false [.sl (.own none) [.d, .d, .d]], .rd false [.sl (.own none) [.d, .d, .d]]], (.one false [.d])⟩
noncomputable def E_leqPacketS : TEnv := envOf [(146, p_leqPacket)]
noncomputable def f_leqPacketS (n : Nat) : (List (Int × Int × ByteArray)) × (List (Int × Int × ByteArray)) → Option ((Bool) × Unit) := runFn n E_leqPacketS c_leqPacketS [[.sl [.i .i64, .i .i64, .s]], [.sl [.i .i64, .i .i64, .s]]] [.b] [] [4] .no
noncomputable def g_leqPacketS := f_leqPacketS BIG
noncomputable def p_leqPacketS : TSp := ⟨s_leqPacketS, [[.sl [.i .i64, .i .i64, .s]], [.sl [.i .i64, .i .i64, .s]]], [.b], [], Ou.j .no, g_leqPacketS⟩
theorem k_leqPacketS : chkW PG E_leqPacketS 79 s_leqPacketS (c_leqPacketS.ht 27) .no = some (c_leqPacketS.wc E_leqPacketS, [4]) := by kernel_rfl
theorem ok_leqPacketS : p_leqPacketS.Ok PG 79 := mkOk (env_cons ok_leqPacket (env_nil PG)) k_leqPacketS (by kernel_rfl)
theorem e_leqPacketS (n : Nat) (a0 : List (Int × Int × ByteArray)) (a1 : List (Int × Int × ByteArray)) : f_leqPacketS n (a0, a1) =
  bif !decide ((a0.length : Int) = (a1.length : Int)) then
   some (false, ())
  else Option.bind (loopT n (X := Int) (B := (Unit) ⊕ (Bool)) (fun self1 x0 =>
    bif decide (x0 < (a0.length : Int)) then
     bnd a0.length x0 fun n2 =>
     Option.bind a0[n2]? fun y3 =>
     bnd a1.length x0 fun n4 =>
     Option.bind a1[n4]? fun y5 =>
     Option.bind (g_leqPacket (y3, y5)) fun r6 =>
     bif !r6.1 then
      some (Sum.inr false)
     else self1 (IntKind.wrap .i64 (x0 + (1 : Int)))
    else some (Sum.inl ())) (0 : Int) : Option ((Unit) ⊕ (Bool))) fun y => match y with
  | .inl x7 =>
   some (true, ())
  | .inr x7 =>
   some (x7, ()) := by kernel_rfl
def c_leqCall : TC :=
 (.seq (.rg [o1 2 (.a (.t 0)),
   o1 3 (.a (.t 1)),
   o1 4 (.lit [.b] [.bool false])])
 (.seq (.seq (.rg [o1 5 (.idx .nil),
   o1 6 (.load 2 [] 0 (.t 5) 4 false),
   o1 7 (.idx .nil),
   o1 8 (.load 3 [] 0 (.t 7) 4 false),
   o3 9 86 [.t 6, .t 8],
   o1 10 (.data .not [.t 9])])
 (.cond (.t 10)
  (.seq (.rg [o1 4 (.lit [.b] [.bool false])])
  .ret)
  .skip))
 (.seq (.seq (.rg [o1 11 (.idx .nil),
   o1 12 (.load 2 [] 4 (.t 11) 1 false),
   o1 13 (.idx .nil),
   o1 14 (.load 3 [] 4 (.t 13) 1 false),
   o1 15 (.data (.bin .neq) [.t 12, .t 14])])
 (.cond (.t 15)
  (.seq (.rg [o1 4 (.lit [.b] [.bool false])])
  .ret)
  .skip))
 (.seq (.seq (.rg [o1 16 (.idx .nil),
   o1 17 (.load 2 [] 5 (.t 16) 1 false),
   o1 18 (.idx .nil),
   o1 19 (.load 3 [] 5 (.t 18) 1 false),
   o1 20 (.data (.bin .neq) [.t 17, .t 19])])
 (.cond (.t 20)
  (.seq (.rg [o1 4 (.lit [.b] [.bool false])])
  .ret)
  .skip))
 (.seq (.seq (.rg [o1 21 (.idx .nil),
   o1 22 (.load 2 [] 6 (.t 21) 1 false),
   o1 23 (.idx .nil),
   o1 24 (.load 3 [] 6 (.t 23) 1 false),
   o1 25 (.data (.bin .neq) [.t 22, .t 24])])
 (.cond (.t 25)
  (.seq (.rg [o1 4 (.lit [.b] [.bool false])])
  .ret)
  .skip))
 (.seq (.rg [o1 4 (.lit [.b] [.bool true])])
 .ret))))))
def s_leqCall : Sig := ⟨[.rd true [.d, .d, .d, .d, .d, .d, .d], .rd true [.d, .d, .d, .d, .d, .d, .d]], (.one false [.d])⟩
noncomputable def E_leqCall : TEnv := envOf [(86, p_leqAsk)]
noncomputable def f_leqCall (n : Nat) : (Int × Int × Int × Int × Int × Int × Int) × (Int × Int × Int × Int × Int × Int × Int) → Option ((Bool) × Unit) := runFn n E_leqCall c_leqCall [[.i .i64, .i .i64, .i .i64, .i .i64, .i .i64, .i .i64, .i .i64], [.i .i64, .i .i64, .i .i64, .i .i64, .i .i64, .i .i64, .i .i64]] [.b] [] [4] .no
noncomputable def g_leqCall := f_leqCall BIG
noncomputable def p_leqCall : TSp := ⟨s_leqCall, [[.i .i64, .i .i64, .i .i64, .i .i64, .i .i64, .i .i64, .i .i64], [.i .i64, .i .i64, .i .i64, .i .i64, .i .i64, .i .i64, .i .i64]], [.b], [], Ou.j .no, g_leqCall⟩
theorem k_leqCall : chkW PG E_leqCall 147 s_leqCall (c_leqCall.ht 26) .no = some (c_leqCall.wc E_leqCall, [4]) := by kernel_rfl
theorem ok_leqCall : p_leqCall.Ok PG 147 := mkOk (env_cons ok_leqAsk (env_nil PG)) k_leqCall (by kernel_rfl)
theorem e_leqCall (n : Nat) (a0 : Int × Int × Int × Int × Int × Int × Int) (a1 : Int × Int × Int × Int × Int × Int × Int) : f_leqCall n (a0, a1) =
  Option.bind (g_leqAsk ((a0.1, a0.2.1, a0.2.2.1, a0.2.2.2.1), (a1.1, a1.2.1, a1.2.2.1, a1.2.2.2.1))) fun r0 =>
  bif !r0.1 then
   some (false, ())
  else bif !decide (a0.2.2.2.2.1 = a1.2.2.2.2.1) then
   some (false, ())
  else bif !decide (a0.2.2.2.2.2.1 = a1.2.2.2.2.2.1) then
   some (false, ())
  else bif !decide (a0.2.2.2.2.2.2 = a1.2.2.2.2.2.2) then
   some (false, ())
  else some (true, ()) := by kernel_rfl
def c_leqCallS : TC :=
 (.seq (.rg [o1 4 (.lit [.b] [.bool false])])
 (.seq (.seq (.rg [o1 6 (.copy 0),
   o1 7 (.len 6),
   o1 8 (.copy 1),
   o1 9 (.len 8),
   o1 10 (.data (.bin .neq) [.t 7, .t 9])])
 (.cond (.t 10)
  (.seq (.rg [o1 4 (.lit [.b] [.bool false])])
  .ret)
  .skip))
 (.seq (.join [] 134215728 (some [⟨4, [.b], false⟩]) (.seq (.rg [o1 5 (.lit [.i .i64] [.int .i64 (0)])])
 (.block 0 (.loop [⟨5, [.i .i64], false⟩] 134215728
  (.seq (.seq (.rg [o1 11 (.copy 5),
    o1 12 (.copy 0),
    o1 13 (.len 12),
    o1 14 (.data (.bin .lss) [.t 11, .t 13])])
  (.cond (.t 14)
   .skip
   (.exit 0)))
  (.seq (.block 1 (.seq (.rg [o1 17 (.copy 0),
    o1 18 (.copy 5),
    o1 19 (.index 17 (.t 18)),
    o1 20 (.load 17 [(0, 7)] 0 (.t 19) 7 false),
    o1 21 (.copy 1),
    o1 22 (.copy 5),
    o1 23 (.index 21 (.t 22)),
    o1 24 (.load 21 [(0, 7)] 0 (.t 23) 7 false),
    o3 25 147 [.t 20, .t 24],
    o1 26 (.data .not [.t 25])])
  (.cond (.t 26)
   (.seq (.rg [o1 4 (.lit [.b] [.bool false])])
   .ret)
   .skip)))
  (.rg [o1 15 (.copy 5),
    o1 16 (.data (.bin .add) [.t 15, .c (.int .i64 (1))]),
    o1 5 (.copy 16)])))))))
 (.seq (.rg [o1 4 (.lit [.b] [.bool true])])
 .ret))))
def s_leqCallS : Sig := ⟨[.rd false [.sl (.own none) [.d, .d, .d, .d, .d, .d, .d]], .rd false [.sl (.own none) [.d, .d, .d, .d, .d, .d, .d]]], (.one false [.d])⟩
noncomputable def E_leqCallS : TEnv := envOf [(147, p_leqCall)]
noncomputable def f_leqCallS (n : Nat) : (List (Int × Int × Int × Int × Int × Int × Int)) × (List (Int × Int × Int × Int × Int × Int × Int)) → Option ((Bool) × Unit) := runFn n E_leqCallS c_leqCallS [[.sl [.i .i64, .i .i64, .i .i64, .i .i64, .i .i64, .i .i64, .i .i64]], [.sl [.i .i64, .i .i64, .i .i64, .i .i64, .i .i64, .i .i64, .i .i64]]] [.b] [] [4] .no
noncomputable def g_leqCallS := f_leqCallS BIG
noncomputable def p_leqCallS : TSp := ⟨s_leqCallS, [[.sl [.i .i64, .i .i64, .i .i64, .i .i64, .i .i64, .i .i64, .i .i64]], [.sl [.i .i64, .i .i64, .i .i64, .i .i64, .i .i64, .i .i64, .i .i64]]], [.b], [], Ou.j .no, g_leqCallS⟩
theorem k_leqCallS : chkW PG E_leqCallS 80 s_leqCallS (c_leqCallS.ht 27) .no = some (c_leqCallS.wc E_leqCallS, [4]) := by kernel_rfl
theorem ok_leqCallS : p_leqCallS.Ok PG 80 := mkOk (env_cons ok_leqCall (env_nil PG)) k_leqCallS (by kernel_rfl)
theorem e_leqCallS (n : Nat) (a0 : List (Int × Int × Int × Int × Int × Int × Int)) (a1 : List (Int × Int × Int × Int × Int × Int × Int)) : f_leqCallS n (a0, a1) =
  bif !decide ((a0.length : Int) = (a1.length : Int)) then
   some (false, ())
  else Option.bind (loopT n (X := Int) (B := (Unit) ⊕ (Bool)) (fun self1 x0 =>
    bif decide (x0 < (a0.length : Int)) then
     bnd a0.length x0 fun n2 =>
     Option.bind a0[n2]? fun y3 =>
     bnd a1.length x0 fun n4 =>
     Option.bind a1[n4]? fun y5 =>
     Option.bind (g_leqCall (y3, y5)) fun r6 =>
     bif !r6.1 then
      some (Sum.inr false)
     else self1 (IntKind.wrap .i64 (x0 + (1 : Int)))
    else some (Sum.inl ())) (0 : Int) : Option ((Unit) ⊕ (Bool))) fun y => match y with
  | .inl x7 =>
   some (true, ())
  | .inr x7 =>
   some (x7, ()) := by kernel_rfl
def c_leqRec : TC :=
 (.seq (.rg [o1 2 (.a (.t 0)),
   o1 3 (.a (.t 1)),
   o1 4 (.lit [.b] [.bool false])])
 (.seq (.seq (.rg [o1 5 (.idx .nil),
   o1 6 (.load 2 [] 0 (.t 5) 1 false),
   o1 7 (.idx .nil),
   o1 8 (.load 3 [] 0 (.t 7) 1 false),
   o1 9 (.data (.bin .neq) [.t 6, .t 8])])
 (.cond (.t 9)
  (.seq (.rg [o1 4 (.lit [.b] [.bool false])])
  .ret)
  .skip))
 (.seq (.seq (.rg [o1 10 (.idx .nil),
   o1 11 (.load 2 [] 1 (.t 10) 4 false),
   o1 12 (.idx .nil),
   o1 13 (.load 3 [] 1 (.t 12) 4 false),
   o3 14 86 [.t 11, .t 13],
   o1 15 (.data .not [.t 14])])
 (.cond (.t 15)
  (.seq (.rg [o1 4 (.lit [.b] [.bool false])])
  .ret)
  .skip))
 (.seq (.seq (.rg [o1 16 (.idx .nil),
   o1 17 (.load 2 [] 5 (.t 16) 1 false),
   o1 18 (.idx .nil),
   o1 19 (.load 3 [] 5 (.t 18) 1 false),
   o1 20 (.data (.bin .neq) [.t 17, .t 19])])
 (.cond (.t 20)
  (.seq (.rg [o1 4 (.lit [.b] [.bool false])])
  .ret)
  .skip))
 (.seq (.seq (.rg [o1 21 (.idx .nil),
   o1 22 (.load 2 [] 6 (.t 21) 4 false),
   o1 23 (.idx .nil),
   o1 24 (.load 3 [] 6 (.t 23) 4 false),
   o3 25 87 [.t 22, .t 24],
   o1 26 (.data .not [.t 25])])
 (.cond (.t 26)
  (.seq (.rg [o1 4 (.lit [.b] [.bool false])])
  .ret)
  .skip))
 (.seq (.seq (.rg [o1 27 (.idx .nil),
   o1 28 (.load 2 [] 10 (.t 27) 4 false),
   o1 29 (.idx .nil),
   o1 30 (.load 3 [] 10 (.t 29) 4 false),
   o3 31 88 [.t 28, .t 30],
   o1 32 (.data .not [.t 31])])
 (.cond (.t 32)
  (.seq (.rg [o1 4 (.lit [.b] [.bool false])])
  .ret)
  .skip))
 (.seq (.rg [o1 4 (.lit [.b] [.bool true])])
 .ret)))))))
def s_leqRec : Sig := ⟨[.rd true [.d, .d, .d, .d, .d, .d, .d, .d, .sl (.own none) [.d, .d], .sl (.own none) [.d], .d, .d, .sl (.own none) [.d, .d], .d], .rd true [.d, .d, .d, .d, .d, .d, .d, .d, .sl (.own none) [.d, .d], .sl (.own none) [.d], .d, .d, .sl (.own none) [.d, .d], .d]], (.one false [.d])⟩
noncomputable def E_leqRec : TEnv := envOf [(86, p_leqAsk), (87, p_leqAnswer), (88, p_leqOrder)]
noncomputable def f_leqRec (n : Nat) : (Int × Int × Int × Int × Int × Int × Int × Bool × List (Int × Int) × List (Int) × Int × Int × List (Int × Int) × Int) × (Int × Int × Int × Int × Int × Int × Int × Bool × List (Int × Int) × List (Int) × Int × Int × List (Int × Int) × Int) → Option ((Bool) × Unit) := runFn n E_leqRec c_leqRec [[.i .i64, .i .i64, .i .i64, .i .i64, .i .i64, .i .i64, .i .i64, .b, .sl [.i .i64, .i .i64], .sl [.i .i64], .i .i64, .i .i64, .sl [.i .i64, .i .i64], .i .i64], [.i .i64, .i .i64, .i .i64, .i .i64, .i .i64, .i .i64, .i .i64, .b, .sl [.i .i64, .i .i64], .sl [.i .i64], .i .i64, .i .i64, .sl [.i .i64, .i .i64], .i .i64]] [.b] [] [4] .no
noncomputable def g_leqRec := f_leqRec BIG
noncomputable def p_leqRec : TSp := ⟨s_leqRec, [[.i .i64, .i .i64, .i .i64, .i .i64, .i .i64, .i .i64, .i .i64, .b, .sl [.i .i64, .i .i64], .sl [.i .i64], .i .i64, .i .i64, .sl [.i .i64, .i .i64], .i .i64], [.i .i64, .i .i64, .i .i64, .i .i64, .i .i64, .i .i64, .i .i64, .b, .sl [.i .i64, .i .i64], .sl [.i .i64], .i .i64, .i .i64, .sl [.i .i64, .i .i64], .i .i64]], [.b], [], Ou.j .no, g_leqRec⟩
theorem k_leqRec : chkW PG E_leqRec 28 s_leqRec (c_leqRec.ht 33) .no = some (c_leqRec.wc E_leqRec, [4]) := by kernel_rfl
theorem ok_leqRec : p_leqRec.Ok PG 28 := mkOk (env_cons ok_leqAsk (env_cons ok_leqAnswer (env_cons ok_leqOrder (env_nil PG)))) k_leqRec (by kernel_rfl)
theorem e_leqRec (n : Nat) (a0 : Int × Int × Int × Int × Int × Int × Int × Bool × List (Int × Int) × List (Int) × Int × Int × List (Int × Int) × Int) (a1 : Int × Int × Int × Int × Int × Int × Int × Bool × List (Int × Int) × List (Int) × Int × Int × List (Int × Int) × Int) : f_leqRec n (a0, a1) =
  bif !decide (a0.1 = a1.1) then
   some (false, ())
  else Option.bind (g_leqAsk ((a0.2.1, a0.2.2.1, a0.2.2.2.1, a0.2.2.2.2.1), (a1.2.1, a1.2.2.1, a1.2.2.2.1, a1.2.2.2.2.1))) fun r0 =>
  bif !r0.1 then
   some (false, ())
  else bif !decide (a0.2.2.2.2.2.1 = a1.2.2.2.2.2.1) then
   some (false, ())
  else Option.bind (g_leqAnswer ((a0.2.2.2.2.2.2.1, a0.2.2.2.2.2.2.2.1, a0.2.2.2.2.2.2.2.2.1, a0.2.2.2.2.2.2.2.2.2.1), (a1.2.2.2.2.2.2.1, a1.2.2.2.2.2.2.2.1, a1.2.2.2.2.2.2.2.2.1, a1.2.2.2.2.2.2.2.2.2.1))) fun r1 =>
  bif !r1.1 then
   some (false, ())
  else Option.bind (g_leqOrder (a0.2.2.2.2.2.2.2.2.2.2, a1.2.2.2.2.2.2.2.2.2.2)) fun r2 =>
  bif !r2.1 then
   some (false, ())
  else some (true, ()) := by kernel_rfl
def c_leqRecS : TC :=
 (.seq (.rg [o1 4 (.lit [.b] [.bool false])])
 (.seq (.seq (.rg [o1 6 (.copy 0),
   o1 7 (.len 6),
   o1 8 (.copy 1),
   o1 9 (.len 8),
   o1 10 (.data (.bin .neq) [.t 7, .t 9])])
 (.cond (.t 10)
  (.seq (.rg [o1 4 (.lit [.b] [.bool false])])
  .ret)
  .skip))
 (.seq (.join [] 134215728 (some [⟨4, [.b], false⟩]) (.seq (.rg [o1 5 (.lit [.i .i64] [.int .i64 (0)])])
 (.block 0 (.loop [⟨5, [.i .i64], false⟩] 134215728
  (.seq (.seq (.rg [o1 11 (.copy 5),
    o1 12 (.copy 0),
    o1 13 (.len 12),
    o1 14 (.data (.bin .lss) [.t 11, .t 13])])
  (.cond (.t 14)
   .skip
   (.exit 0)))
  (.seq (.block 1 (.seq (.rg [o1 17 (.copy 0),
    o1 18 (.copy 5),
    o1 19 (.index 17 (.t 18)),
    o1 20 (.load 17 [(0, 14)] 0 (.t 19) 14 false),
    o1 21 (.copy 1),
    o1 22 (.copy 5),
    o1 23 (.index 21 (.t 22)),
    o1 24 (.load 21 [(0, 14)] 0 (.t 23) 14 false),
    o3 25 28 [.t 20, .t 24],
    o1 26 (.data .not [.t 25])])
  (.cond (.t 26)
   (.seq (.rg [o1 4 (.lit [.b] [.bool false])])
   .ret)
   .skip)))
  (.rg [o1 15 (.copy 5),
    o1 16 (.data (.bin .add) [.t 15, .c (.int .i64 (1))]),
    o1 5 (.copy 16)])))))))
 (.seq (.rg [o1 4 (.lit [.b] [.bool true])])
 .ret))))
def s_leqRecS : Sig := ⟨[.rd false [.sl (.own none) [.d, .d, .d, .d, .d, .d, .d, .d, .sl (.own none) [.d, .d], .sl (.own none) [.d], .d, .d, .sl (.own none) [.d, .d], .d]], .rd false [.sl (.own none) [.d, .d, .d, .d, .d, .d, .d, .d, .sl (.own none) [.d, .d], .sl (.own none) [.d], .d, .d, .sl (.own none) [.d, .d], .d]]], (.one false [.d])⟩
noncomputable def E_leqRecS : TEnv := envOf [(28, p_leqRec)]
noncomputable def f_leqRecS (n : Nat) : (List (Int × Int × Int × Int × Int × Int × Int × Bool × List (Int × Int) × List (Int) × Int × Int × List (Int × Int) × Int)) × (List (Int × Int × Int × Int × Int × Int × Int × Bool × List (Int × Int) × List (Int) × Int × Int × List (Int × Int) × Int)) → Option ((Bool) × Unit) := runFn n E_leqRecS c_leqRecS [[.sl [.i .i64, .i .i64, .i .i64, .i .i64, .i .i64, .i .i64, .i .i64, .b, .sl [.i .i64, .i .i64], .sl [.i .i64], .i .i64, .i .i64, .sl [.i .i64, .i .i64], .i .i64]], [.sl [.i .i64, .i .i64, .i .i64, .i .i64, .i .i64, .i .i64, .i .i64, .b, .sl [.i .i64, .i .i64], .sl [.i .i64], .i .i64, .i .i64, .sl [.i .i64, .i .i64], .i .i64]]] [.b] [] [4] .no
noncomputable def g_leqRecS := f_leqRecS BIG
noncomputable def p_leqRecS : TSp := ⟨s_leqRecS, [[.sl [.i .i64, .i .i64, .i .i64, .i .i64, .i .i64, .i .i64, .i .i64, .b, .sl [.i .i64, .i .i64], .sl [.i .i64], .i .i64, .i .i64, .sl [.i .i64, .i .i64], .i .i64]], [.sl [.i .i64, .i .i64, .i .i64, .i .i64, .i .i64, .i .i64, .i .i64, .b, .sl [.i .i64, .i .i64], .sl [.i .i64], .i .i64, .i .i64, .sl [.i .i64, .i .i64], .i .i64]]], [.b], [], Ou.j .no, g_leqRecS⟩
theorem k_leqRecS : chkW PG E_leqRecS 11 s_leqRecS (c_leqRecS.ht 27) .no = some (c_leqRecS.wc E_leqRecS, [4]) := by kernel_rfl
theorem ok_leqRecS : p_leqRecS.Ok PG 11 := mkOk (env_cons ok_leqRec (env_nil PG)) k_leqRecS (by kernel_rfl)
theorem e_leqRecS (n : Nat) (a0 : List (Int × Int × Int × Int × Int × Int × Int × Bool × (List (Int × Int)) × (List (Int)) × Int × Int × (List (Int × Int)) × Int)) (a1 : List (Int × Int × Int × Int × Int × Int × Int × Bool × (List (Int × Int)) × (List (Int)) × Int × Int × (List (Int × Int)) × Int)) : f_leqRecS n (a0, a1) =
  bif !decide ((a0.length : Int) = (a1.length : Int)) then
   some (false, ())
  else Option.bind (loopT n (X := Int) (B := (Unit) ⊕ (Bool)) (fun self1 x0 =>
    bif decide (x0 < (a0.length : Int)) then
     bnd a0.length x0 fun n2 =>
     Option.bind a0[n2]? fun y3 =>
     bnd a1.length x0 fun n4 =>
     Option.bind a1[n4]? fun y5 =>
     Option.bind (g_leqRec (y3, y5)) fun r6 =>
     bif !r6.1 then
      some (Sum.inr false)
     else self1 (IntKind.wrap .i64 (x0 + (1 : Int)))
    else some (Sum.inl ())) (0 : Int) : Option ((Unit) ⊕ (Bool))) fun y => match y with
  | .inl x7 =>
   some (true, ())
  | .inr x7 =>
   some (x7, ()) := by kernel_rfl
end Go.Fw
