/- The given functions, as what they compute; each is shown to be what the code does. No conditions. -/
import Derived.Test.YtlolhpdimikcdaaGreatX2
set_option linter.unusedVariables false
set_option linter.unusedSimpArgs false
set_option linter.unusedSectionVars false
namespace Go.Fw
noncomputable section
def c_iTakeEdge:TC:=
 (zS [zAm 2,zDk 3 1,zHd 4 1000000005,zBo 5] (zQ (.seq (.join [⟨14,[.b],false⟩] 32704 none (zR [zLe 6 2 2 129 6,zBz 8 7,zAb 9 8,zEx 10 2 2 3,zKD 11 3 2 3 189 10 3,zIt 13 12 3 9])) (zC 14 (zS [zHe 15,zDa 4 15 4 15,zBo 5] .ret) .skip)) (zS [zIv 16 2 0 2 1,zJs 20 3 2 172 19,zHf 17 21 22 21,zDa 4 22 4 22,zDh 5] .ret)))
def s_iTakeEdge:Sig:=⟨[.rd true Ct19,.rd true [.d,.d]],(.tup [(true,2),(false,1)] Ct17)⟩
def E_iTakeEdge:TEnv:=envOf [(129,p_iGraphOk),(189,p_iHasEdge),(172,p_iwithoutEdge)]
def f_iTakeEdge (n:Nat):Zt17 × Zt20->Option (Zt15 × Unit):=runFn n E_iTakeEdge c_iTakeEdge [Ty20,[.i .i64,.i .i64]] Ty18 [] [4,5] .no
def g_iTakeEdge:=f_iTakeEdge BIG
def p_iTakeEdge:TSp:=⟨s_iTakeEdge,[Ty20,[.i .i64,.i .i64]],Ty18,[],Ou.j .no,g_iTakeEdge⟩
theorem k_iTakeEdge:zK E_iTakeEdge 175 s_iTakeEdge c_iTakeEdge 23 .no [4,5]:=by show _=_;kernel_rfl
theorem ok_iTakeEdge:p_iTakeEdge.Ok PG 175:=mkOk (env_cons ok_iGraphOk (env_cons ok_iHasEdge (env_cons ok_iwithoutEdge (env_nil PG)))) k_iTakeEdge (by kernel_rfl)
theorem e_iTakeEdge (n) (a0) (a1):f_iTakeEdge n (a0,a1) = ((g_iGraphOk a0).bind fun r0=> bif !r0.1 then some true else (g_iHasEdge (a0,a1)).bind fun r1=> some !r1.1).bind fun x2=> bif x2 then some (((0:Int),[],false),()) else (g_iwithoutEdge (a0.2,a1)).bind fun r3=> some ((a0.1,r3.1,true),()):=by kernel_rfl
def c_iLabels:TC:=
 (zS [zAm 1,zAr 2] (zQ (zS [zLe 6 1 2 129 6,zBz 8 7] (zC 8 (zS [zAr 2] .ret) .skip)) (zS [zIj 9 1 0 9,zAA 11 114 10,zAs 11 3 11] (zQ (.join [⟨3,[.sl [.i .i64]],false⟩] 67104808 none (zS [zJq 12 1 1,zAa 15] (.block 0 (.loop [⟨3,[.sl [.i .i64]],false⟩,⟨15,[.i .i64],false⟩] 67076136 (zS [zAg 16 15 14] (zQ (zC 16 .skip (.exit 0)) (zQ (.block 1 (zS [zIg 17 13 15 2 2,zAv 5 1000000006,zAy 5 5 18] (zR [zAt 19 3,zIv 20 5 0 5 1,zHB 19 21 23 3 19 24 3 19 24]))) (zR [zIB 25 15])))))))) (zS [zJb 3 26 3 2] .ret)))))
def s_iLabels:Sig:=⟨[.rd true Ct19],(.one false Ct21)⟩
def E_iLabels:TEnv:=envOf [(129,p_iGraphOk),(114,p_ifirst),(127,p_iunion)]
def f_iLabels (n:Nat):Zt17->Option ((List Int) × Unit):=runFn n E_iLabels c_iLabels [Ty20] [.sl [.i .i64]] [] [2] .no
def g_iLabels:=f_iLabels BIG
def p_iLabels:TSp:=⟨s_iLabels,[Ty20],[.sl [.i .i64]],[],Ou.j .no,g_iLabels⟩
theorem k_iLabels:zK E_iLabels 78 s_iLabels c_iLabels 27 .no [2]:=by show _=_;kernel_rfl
theorem ok_iLabels:p_iLabels.Ok PG 78:=mkOk (env_cons ok_iGraphOk (env_cons ok_ifirst (env_cons ok_iunion (env_nil PG)))) k_iLabels (by kernel_rfl)
theorem e_iLabels (n) (a0):f_iLabels n a0 = (g_iGraphOk a0).bind fun r0=> bif !r0.1 then some ([],()) else (g_ifirst a0.1).bind fun r1=> (loopT n (X:=(List Int) × Int) (B:=(List Int)) (fun self3 x2=> bif decide (x2.2<(a0.2.length:Int)) then bnd a0.2.length x2.2 fun n4=> a0.2[n4]?.bind fun y5=> (g_iunion (x2.1,y5.1,y5.2)).bind fun r6=> self3 (r6.2,IntKind.wrap .i64 (x2.2+1)) else some x2.1) (r1.1,(0:Int))).bind fun x7=> some (x7,()):=by kernel_rfl
def c_iTogether:TC:=
 (zS [zAm 3,zBo 6] (zQ (.seq (.join [⟨26,[.b],false⟩] 134217472 none (zR [zLe 8 3 2 129 8,zJk 10 9,zBA 12 1 3,zIq 13 3 3 0 3,zEj 15 14 3,zEk 113 12 0 15 16 16 3,zJg 17 16 3 11,zBA 20 2 11,zIw 21 11 3 0,zEj 23 22 11,zEk 113 20 0 23 24 24 11,zIt 25 24 11 19])) (zC 26 (zS [zBo 6] .ret) .skip)) (zS [zJi 27 3 2 78,zAs 28 7 28] (zS [zAt 29 7,zAb 30 1,zAt 33 7,zAb 34 2,zJh 31 29 30 7 1 1,zJh 35 33 34 7 1 1,zEb 37 32 36,zAb 6 37] .ret))))
def s_iTogether:Sig:=⟨[.rd true Ct19,.rd false [.d],.rd false [.d]],(.one false [.d])⟩
def E_iTogether:TEnv:=envOf [(129,p_iGraphOk),(113,p_iin),(78,p_iLabels)]
def f_iTogether (n:Nat):Zt17 × Int × Int->Option ((Bool) × Unit):=runFn n E_iTogether c_iTogether [Ty20,[.i .i64],[.i .i64]] [.b] [] [6] .no
def g_iTogether:=f_iTogether BIG
def p_iTogether:TSp:=⟨s_iTogether,[Ty20,[.i .i64],[.i .i64]],[.b],[],Ou.j .no,g_iTogether⟩
theorem k_iTogether:zK E_iTogether 176 s_iTogether c_iTogether 38 .no [6]:=by show _=_;kernel_rfl
theorem ok_iTogether:p_iTogether.Ok PG 176:=mkOk (env_cons ok_iGraphOk (env_cons ok_iin (env_cons ok_iLabels (env_nil PG)))) k_iTogether (by kernel_rfl)
theorem e_iTogether (n) (a0) (a1) (a2):f_iTogether n (a0,a1,a2) = ((g_iGraphOk a0).bind fun r0=> bif !r0.1 then some true else (g_iin (a1,(0:Int),IntKind.wrap .i64 (a0.1-1))).bind fun r1=> bif !r1.1 then some true else (g_iin (a2,(0:Int),IntKind.wrap .i64 (a0.1-1))).bind fun r2=> some !r2.1).bind fun x3=> bif x3 then some (false,()) else (g_iLabels a0).bind fun r4=> bnd r4.1.length a1 fun n5=> r4.1[n5]?.bind fun y6=> bnd r4.1.length a2 fun n7=> r4.1[n7]?.bind fun y8=> some (decide (y6=y8),()):=by kernel_rfl
def c_iModel:TC:=
 (zS [zAm 2,zDk 3 1,zHd 4 1000000005,zAa 5] (zS [zID 1000000007 11 11 2 0,zID 1000000007 13 13 2 1,zHi 1000000007 161 14 15 15,zHg 12 15 16 15 16,zHd 6 1000000007,zDa 6 16 6 16] (zS [zIf 17 2 0,zEn 19 18,zAb 7 19,zAa 8] (zQ (.join [⟨8,[.i .i64],false⟩,⟨7,[.i .i64],false⟩] 7340416 none (zS [zJy 20 3 1 4] (zC 22 (zR [zGg 8 1,zGg 7 3]) .skip))) (zQ (.seq (.join [⟨65,[.b],false⟩] 73786976294829817856 none (zR [zIf 23 2 0,[o1 25 (.data (.bin .lss) [.t 24,kD 1])],zKz 26 25 3 3 1 3,zKt 113 28 4 29 29 3 3 26,zIq 33 9 3 2 9,zIq 35 9 2 0 9,zEj 37 36 9,zEk 113 34 0 37 38 38 9,zJg 39 38 9 32,zIw 42 18 3 3,zBA 44 8 18,zBA 45 7 18,zHy 113 43 44 45 46 46 18,zJg 47 46 18 41,zIw 50 26 3 2,zIw 52 26 3 3,zDt 54 51 53 26,zBA 55 54 26,zIs 56 32 3 1,zHa 58 57 1 32,zBq 59 58 32,zIw 60 36 3 1,zHz 62 61 2 36,zHA 59 62 63 63 32,zLa 55 63 64 64 26 49])) (zC 65 (zS [zIm 66 6 2 4 4 6,zGg 5 3] .ret) .skip)) (zS [zBa 67 6 2,zHd 9 1000000010,zAy 9 9 67,zBo 10] (zQ (.join [⟨9,Ty20,false⟩,⟨10,[.b],false⟩,⟨4,Ty20,false⟩,⟨6,Ty20,false⟩] 633825299966540748158675191408 (some [⟨4,Ty20,false⟩,⟨5,[.i .i64],false⟩]) (zS [zIf 68 3 1] (.block 0 (zS [zEi 72 69 1,zAb 71 72] (zC 71 (zR [zAx 74 2 2,zJi 75 3 4 174,zKw 77 173 74 76 73 2 2,zKb 9 78 9 78]) (zS [zEi 81 69 2,zAb 80 81] (zC 80 (zR [zAx 83 2 2,zJi 84 3 4 174,zKw 86 175 83 85 82 2 2,zKb 9 87 9 87]) (zS [zEi 90 69 3,zAb 89 90] (zC 89 (zS [zBa 91 6 2,zAx 92 2 2,zIv 93 3 2 3 3,zGn 97 176 92 94 96,zAA 98 121 97,zId 91 91 91 91,zAb 5 98] .ret) (zS [zBa 70 6 2,zId 70 70 70 70,zGg 5 1] .ret)))))))))) (zQ (zS [zAb 99 10,zBz 100 99] (zC 100 (zS [zBa 101 6 2,zHk 101 4 101 4 101 101 6 67,zGg 5 2] .ret) .skip)) (zS [zIm 102 9 2 4 4 9,zGg 5 1] .ret)))))))))
def s_iModel:Sig:=⟨[.rd true Ct19,.rd true [.d,.d,.d,.d]],(.tup [(true,2),(false,1)] Ct17)⟩
def E_iModel:TEnv:=envOf [(161,p_icopyEdges),(113,p_iin),(174,p_iedgeOf),(173,p_iAddEdge),(175,p_iTakeEdge),(176,p_iTogether),(121,p_iyesNo)]
def f_iModel (n:Nat):Zt17 × Zt19->Option ((Int × List Zt20 × Int) × Unit):=runFn n E_iModel c_iModel [Ty20,Ty19] Ty16 [] [4,5] .no
def g_iModel:=f_iModel BIG
def p_iModel:TSp:=⟨s_iModel,[Ty20,Ty19],Ty16,[],Ou.j .no,g_iModel⟩
theorem k_iModel:zK E_iModel 123 s_iModel c_iModel 103 .no [4,5]:=by show _=_;kernel_rfl
theorem ok_iModel:p_iModel.Ok PG 123:=mkOk (env_cons ok_icopyEdges (env_cons ok_iin (env_cons ok_iedgeOf (env_cons ok_iAddEdge (env_cons ok_iTakeEdge (env_cons ok_iTogether (env_cons ok_iyesNo (env_nil PG)))))))) k_iModel (by kernel_rfl)
theorem e_iModel (n) (a0) (a1):f_iModel n (a0,a1) = (g_icopyEdges a0.2).bind fun r0=> (bif decide (a1.2.1=4) then some ((1:Int),(3:Int)) else some ((0:Int),IntKind.wrap .i64 (a0.1-1)):Option Zt20).bind fun x1=> (bif decide (a0.1<1) then some true else (g_iin (a1.2.1,(1:Int),(4:Int))).bind fun r2=> bif !r2.1 then some true else (g_iin (a1.2.2.1,(0:Int),IntKind.wrap .i64 (a0.1-1))).bind fun r3=> bif !r3.1 then some true else (g_iin (a1.2.2.2,x1.1,x1.2)).bind fun r4=> bif !r4.1 then some true else bif decide (a1.2.2.1=a1.2.2.2) then bif decide (a1.2.1=1) then some true else some (decide (a1.2.1=2)) else some false).bind fun x5=> bif x5 then some ((a0.1,r0.1,(3:Int)),()) else (bif decide (a1.2.1=1) then (g_iedgeOf a1).bind fun r6=> (g_iAddEdge (a0,r6.1)).bind fun r7=> some (Sum.inl ((r7.1.1,r7.1.2.1),r7.1.2.2,((0:Int),[]),(a0.1,r0.1))) else bif decide (a1.2.1=2) then (g_iedgeOf a1).bind fun r8=> (g_iTakeEdge (a0,r8.1)).bind fun r9=> some (Sum.inl ((r9.1.1,r9.1.2.1),r9.1.2.2,((0:Int),[]),(a0.1,r0.1))) else bif decide (a1.2.1=3) then (g_iTogether (a0,a1.2.2.1,a1.2.2.2)).bind fun r10=> (g_iyesNo r10.1).bind fun r11=> some (Sum.inr ((a0.1,r0.1),r11.1)) else some (Sum.inr ((a0.1,r0.1),(1:Int))):Option ((Zt17 × Bool × Zt17 × Zt17) ⊕ (Zt17 × Int))).bind fun y=>match y with | .inl x12=> bif !x12.2.1 then some ((x12.2.2.2.1,x12.2.2.2.2,(2:Int)),()) else some ((x12.1.1,x12.1.2,(1:Int)),()) | .inr x12=> some ((x12.1.1,x12.1.2,x12.2),()):=by kernel_rfl
def c_imade:TC:=
 (zS [zHd 4 1000000005,zBo 5] (zS [zAb 12 0,zHj 13 12,zHd 6 1000000007,zDa 6 13 6 13] (zS [zDh 7] (zQ (.join [⟨7,[.b],false⟩,⟨6,Ty20,false⟩] 35184372076224 none (zS [zKm 14 1] (.block 0 (.loop [⟨7,[.b],false⟩,⟨6,Ty20,false⟩,⟨16,[.i .i64],false⟩] 35184372027072 (zS [zAg 17 16 15] (zQ (zC 17 .skip (.exit 0)) (zQ (.join [⟨7,[.b],false⟩,⟨6,Ty20,false⟩] 17592185786048 none (.block 1 (zS [zIg 18 14 16 6 6,zBd 9 1000000010,zAy 9 9 19] (zQ (zS [zJy 20 9 5 3] (zC 22 (.exit 1) .skip)) (zS [zBa 24 6 2,zIu 25 9 1 4,zKw 27 123 24 26 23 2 2,zHd 10 1000000011,zKb 10 28 10 28] (zQ (.join [⟨7,[.b],false⟩] 8795019280512 none (zR [zAb 30 7,zKy 31 30 11 1,zIA 33 1 9 5 1,zEd 35 32 34 1,zBq 36 35 1,zDr 37 6,zGE 38 37 6,zDs 39 9 2 38 6,zHz 40 39 4 6,zHA 36 40 41 41 1,zJe 31 41 42 7])) (zR [zBa 43 10 2,zHk 43 6 43 6 43 43 10 24]))))))) (zR [zIB 44 16])))))))) (zS [zBa 45 6 2,zAb 46 7,zBb 45 4 45 4 45 45 6,zAb 5 46] .ret)))))
def s_imade:Sig:=⟨[.rd false [.d],.rd false Ct13],(.tup [(true,2),(false,1)] Ct17)⟩
def E_imade:TEnv:=envOf [(123,p_iModel)]
def f_imade (n:Nat):Int × (List Zt14)->Option (Zt15 × Unit):=runFn n E_imade c_imade [[.i .i64],Ty11] Ty18 [] [4,5] .no
def g_imade:=f_imade BIG
def p_imade:TSp:=⟨s_imade,[[.i .i64],Ty11],Ty18,[],Ou.j .no,g_imade⟩
theorem k_imade:zK E_imade 68 s_imade c_imade 47 .no [4,5]:=by show _=_;kernel_rfl
theorem ok_imade:p_imade.Ok PG 68:=mkOk (env_cons ok_iModel (env_nil PG)) k_imade (by kernel_rfl)
theorem e_imade (n) (a0) (a1):f_imade n (a0,a1) = (loopT n (X:=Bool × Zt17 × Int) (B:=Bool × Zt17) (fun self1 x0=> bif decide (x0.2.2<(a1.length:Int)) then (bnd a1.length x0.2.2 fun n2=> a1[n2]?.bind fun y3=> bif decide (y3.2.2.2.2.2=3) then some (x0.1,x0.2.1) else (g_iModel (x0.2.1,(y3.2.1,y3.2.2.1,y3.2.2.2.1,y3.2.2.2.2.1))).bind fun r4=> (bif x0.1 then bif decide (r4.1.2.2=y3.2.2.2.2.2) then some true else some (decide (y3.2.2.1=4)) else some false).bind fun x5=> some (x5,(r4.1.1,r4.1.2.1))).bind fun x6=> self1 (x6.1,x6.2,IntKind.wrap .i64 (x0.2.2+1)) else some (x0.1,x0.2.1)) (true,(a0,[]),(0:Int))).bind fun x7=> some ((x7.2.1,x7.2.2,x7.1),()):=by kernel_rfl
def c_iFollows:TC:=
 (zS [zBo 4] (zS [zIh 8 0 1,zAj 10 68 8 9,zAs 10 7 10,zGo 7 2 11 7,zGp 12 7 2,zHd 5 1000000006,zKb 5 11 5 11] (zS [zJc 13 6 4] .ret)))
def s_iFollows:Sig:=⟨[.rd false [.d],.rd false Ct13],(.one false [.d])⟩
def E_iFollows:TEnv:=envOf [(68,p_imade)]
def f_iFollows (n:Nat):Int × (List Zt14)->Option ((Bool) × Unit):=runFn n E_iFollows c_iFollows [[.i .i64],Ty11] [.b] [] [4] .no
def g_iFollows:=f_iFollows BIG
def p_iFollows:TSp:=⟨s_iFollows,[[.i .i64],Ty11],[.b],[],Ou.j .no,g_iFollows⟩
theorem k_iFollows:zK E_iFollows 30 s_iFollows c_iFollows 14 .no [4]:=by show _=_;kernel_rfl
theorem ok_iFollows:p_iFollows.Ok PG 30:=mkOk (env_cons ok_imade (env_nil PG)) k_iFollows (by kernel_rfl)
theorem e_iFollows (n) (a0) (a1):f_iFollows n (a0,a1) = (g_imade (a0,a1)).bind fun r0=> some (r0.1.2.2,()):=by kernel_rfl
def c_iInTime:TC:=
 (zS [zBo 4] (zQ (.join [] 9223372036854775504 (some [⟨4,[.b],false⟩]) (zS [zKm 10 0] (.block 0 (.loop [⟨12,[.i .i64],false⟩] 9223372036854772432 (zS [zAg 13 12 11] (zQ (zC 13 .skip (.exit 0)) (zQ (.join [] 4611686018427372240 (some [⟨4,[.b],false⟩]) (.block 1 (zS [zIg 14 10 12 7 7,zBk 6 1000000007,zAy 6 6 15] (zQ (zS [zIf 16 6 5,zAe 18 17] (zC 18 (.exit 1) .skip)) (zS [zAb 19 1,zJt 20 6 0,zAj 23 69 19 22,zAb 7 23] (zQ (.seq (.join [⟨35,[.b],false⟩] 68702699520 none (zR [zIz 24 7,zAb 26 25,zBA 27 1 2,zLi 28 7 2 27 2,zGE 30 29 2,zHm 31 27 6 5 30 2,zIq 32 2 6 6 2,zJx 34 31 33 2 26])) (zC 35 (zS [zBo 4] .ret) .skip)) (zS [zKm 36 0] (.block 2 (.loop [⟨38,[.i .i64],false⟩] 4611685743549481488 (zS [zAg 39 38 37] (zQ (zC 39 .skip (.exit 2)) (zQ (.join [] 2305841909702066704 (some [⟨4,[.b],false⟩]) (.block 3 (zS [zIg 40 36 38 7 7,zBk 9 1000000010,zAy 9 9 41] (zQ (.join [⟨60,[.b],false⟩] 2305838611167182848 none (zR [zIf 42 9 5,zHh 44 43,zKi 45 44 3 6 5 3,zIA 48 3 9 4 3,zDq 50 47 49 3,zIx 45 50 51,zBq 53 7 10,zBq 54 1 10,zKp 55 10 9 0,zDy 69 54 57 58 58 10,[o2 59 (.data (.bin .geq) [.t 53,.t 58]) 10 true],zBs 52 59 60])) (zC 60 (zS [zBo 4] .ret) .skip))))) (zR [zIB 61 38]))))))))))))) (zR [zIB 62 12])))))))) (zS [zDh 4] .ret)))
def s_iInTime:Sig:=⟨[.rd false Ct12,.rd false Ct13],(.one false [.d])⟩
def E_iInTime:TEnv:=envOf [(69,p_isaidAt)]
def f_iInTime (n:Nat):(List Zt11) × (List Zt14)->Option ((Bool) × Unit):=runFn n E_iInTime c_iInTime [Ty9,Ty11] [.b] [] [4] .no
def g_iInTime:=f_iInTime BIG
def p_iInTime:TSp:=⟨s_iInTime,[Ty9,Ty11],[.b],[],Ou.j .no,g_iInTime⟩
theorem k_iInTime:zK E_iInTime 31 s_iInTime c_iInTime 63 .no [4]:=by show _=_;kernel_rfl
theorem ok_iInTime:p_iInTime.Ok PG 31:=mkOk (env_cons ok_isaidAt (env_nil PG)) k_iInTime (by kernel_rfl)
theorem e_iInTime (n) (a0) (a1):f_iInTime n (a0,a1) =
 (loopT n (X:=Int) (B:=(Unit) ⊕ (Bool)) (fun self1 x0=>
  bif decide (x0<(a0.length:Int)) then
   (bnd a0.length x0 fun n2=>
    a0[n2]?.bind fun y3=>
    bif decide (y3.2.2.2.2.2.1<0) then
     some (Sum.inl ())
    else (g_isaidAt (a1,y3.1)).bind fun r4=>
    (bif decide (r4.1<0) then
     some true
     else bnd a1.length r4.1 fun n5=>
     a1[n5]?.bind fun y6=>
     some (!decide (y6.2.2.2.2.2=y3.2.2.2.2.2.2))).bind fun x7=>
    bif x7 then
     some (Sum.inr false)
    else loopT n (X:=Int) (B:=(Unit) ⊕ (Bool)) (fun self9 x8=>
     bif decide (x8<(a0.length:Int)) then
      (bnd a0.length x8 fun n10=>
       a0[n10]?.bind fun y11=>
       (bif decide (0<=y11.2.2.2.2.2.1) then
        bif decide (y3.2.2.2.2.2.1<y11.2.2.2.2.1) then
         (g_isaidAt (a1,y11.1)).bind fun r12=>
         some (decide (r12.1<=r4.1))
        else some false
        else some false).bind fun x13=>
       bif x13 then
        some (Sum.inr false)
       else some (Sum.inl ())).bind fun y=>match y with
      | .inl x14=>
       self9 (IntKind.wrap .i64 (x8+1))
      | .inr x14=>
       some (Sum.inr x14)
     else some (Sum.inl ())) (0:Int):Option ((Unit) ⊕ (Bool))).bind fun y=>match y with
   | .inl x15=>
    self1 (IntKind.wrap .i64 (x0+1))
   | .inr x15=>
    some (Sum.inr x15)
  else some (Sum.inl ())) (0:Int)).bind fun y=>match y with
 | .inl x16=>
  some (true,())
 | .inr x16=>
  some (x16,()):=by kernel_rfl
def c_iGraphOf:TC:=
 (zS [zAm 1,zHd 2 1000000003] (zS [zIj 6 1 0 6,zHj 8 7,zHd 3 1000000004,zDa 3 8 3 8] (zQ (.join [⟨3,Ty20,false⟩] 134217256 none (zS [zIj 9 1 1 9,zAc 11 10,zAa 12] (.block 0 (.loop [⟨3,Ty20,false⟩,⟨12,[.i .i64],false⟩] 134213672 (zS [zAg 13 12 11] (zQ (zC 13 .skip (.exit 0)) (zQ (.block 1 (zS [zIg 14 10 12 4 4,zBf 5 1000000006,zAy 5 5 15] (zR [zJD 16 3 1,zIv 18 5 0 5 1,zGa 22 19 21,zGb 23 22,zDc 17 17 23 24 17 17 3 24,zAn 25,zDd 3 24 17 3 1 25 24]))) (zR [zIB 26 12])))))))) (zS [zIm 27 3 2 2 2 3] .ret))))
def s_iGraphOf:Sig:=⟨[.rd true Ct15],(.one true Ct19)⟩
def E_iGraphOf:TEnv:=envOf []
def f_iGraphOf (n:Nat):Zt12->Option (Zt17 × Unit):=runFn n E_iGraphOf c_iGraphOf [Ty15] Ty20 [] [2] .no
def g_iGraphOf:=f_iGraphOf BIG
def p_iGraphOf:TSp:=⟨s_iGraphOf,[Ty15],Ty20,[],Ou.j .no,g_iGraphOf⟩
theorem k_iGraphOf:zK E_iGraphOf 126 s_iGraphOf c_iGraphOf 28 .no [2]:=by show _=_;kernel_rfl
theorem ok_iGraphOf:p_iGraphOf.Ok PG 126:=mkOk (env_nil PG) k_iGraphOf (by kernel_rfl)
theorem e_iGraphOf (n) (a0):f_iGraphOf n a0 = (loopT n (X:=Zt17 × Int) (B:=Zt17) (fun self1 x0=> bif decide (x0.2<(a0.2.length:Int)) then bnd a0.2.length x0.2 fun n2=> a0.2[n2]?.bind fun y3=> bif decide (x0.1.2.length+([(y3.1,y3.2.1)]).length<=4294967296) then self1 ((x0.1.1,x0.1.2++([(y3.1,y3.2.1)])),IntKind.wrap .i64 (x0.2+1)) else none else some x0.1) ((a0.1,[]),(0:Int))).bind fun x4=> some (x4,()):=by kernel_rfl
def c_iOwned:TC:=
 (zS [zAm 1,zAz 2] (zS [zKg 3 1 1 3 2,zAA 5 126 4,[o5 (.ext 5 1 1) 6 5],zAs 6 2 6] .ret))
def s_iOwned:Sig:=⟨[.rd true Ct6],(.one false Ct20)⟩
def E_iOwned:TEnv:=envOf [(126,p_iGraphOf)]
def f_iOwned (n:Nat):Zt8->Option ((List Zt20) × Unit):=runFn n E_iOwned c_iOwned [Ty7] [.sl [.i .i64,.i .i64]] [] [2] .no
def g_iOwned:=f_iOwned BIG
def p_iOwned:TSp:=⟨s_iOwned,[Ty7],[.sl [.i .i64,.i .i64]],[],Ou.j .no,g_iOwned⟩
theorem k_iOwned:zK E_iOwned 72 s_iOwned c_iOwned 7 .no [2]:=by show _=_;kernel_rfl
theorem ok_iOwned:p_iOwned.Ok PG 72:=mkOk (env_cons ok_iGraphOf (env_nil PG)) k_iOwned (by kernel_rfl)
theorem e_iOwned (n) (a0):f_iOwned n a0 = (g_iGraphOf (a0.2.1,a0.2.2.1)).bind fun r0=> some (r0.1.2,()):=by kernel_rfl
def c_iwebs:TC:=
 (zS [zAm 1,[o1 2 (.lit Ty22 [.slice none 0 0])]] (zS [[o1 3 (.lit Ty22 [.slice none 0 0])]] (zQ (.join [⟨3,Ty22,false⟩] 524264 none (zS [zIj 6 1 16 6,zAc 8 7,zAa 9] (.block 0 (.loop [⟨3,Ty22,false⟩,⟨9,[.i .i64],false⟩] 523816 (zS [zAg 10 9 8] (zQ (zC 10 .skip (.exit 0)) (zQ (.block 1 (zS [zJh 11 7 9 7 7 7,zBi 5 1000000006,zAy 5 5 12] (zR [zAs 3 13 3,zJi 14 5 7 72,zHr 15 16 15,zDj 13 16 17 13 16 17,zAs 17 3 17]))) (zR [zAk 18 9,zAb 9 18])))))))) (zS [zJb 3 19 3 2] .ret))))
def s_iwebs:Sig:=⟨[.rd true Ct0],(.one false Ct10)⟩
def E_iwebs:TEnv:=envOf [(72,p_iOwned)]
def f_iwebs (n:Nat):Zt0->Option ((List (List Zt20)) × Unit):=runFn n E_iwebs c_iwebs [Ty0] Ty22 [] [2] .no
def g_iwebs:=f_iwebs BIG
def p_iwebs:TSp:=⟨s_iwebs,[Ty0],Ty22,[],Ou.j .no,g_iwebs⟩
theorem k_iwebs:zK E_iwebs 71 s_iwebs c_iwebs 20 .no [2]:=by show _=_;kernel_rfl
theorem ok_iwebs:p_iwebs.Ok PG 71:=mkOk (env_cons ok_iOwned (env_nil PG)) k_iwebs (by kernel_rfl)
theorem e_iwebs (n) (a0):f_iwebs n a0 = (loopT n (X:=(List ((List Zt20))) × Int) (B:=(List ((List Zt20)))) (fun self1 x0=> bif decide (x0.2<(a0.2.2.2.2.2.2.2.2.2.2.2.2.2.2.2.2.1.length:Int)) then bnd a0.2.2.2.2.2.2.2.2.2.2.2.2.2.2.2.2.1.length x0.2 fun n2=> a0.2.2.2.2.2.2.2.2.2.2.2.2.2.2.2.2.1[n2]?.bind fun y3=> (g_iOwned y3).bind fun r4=> bif decide (x0.1.length+[r4.1].length<=4294967296) then self1 (x0.1++[r4.1],IntKind.wrap .i64 (x0.2+1)) else none else some x0.1) ([],(0:Int))).bind fun x5=> some (x5,()):=by kernel_rfl
def c_iWholeEdges:TC:=
 (zS [zAz 4,zBo 5] (zS [zAz 6] (zQ (.join [⟨6,[.sl [.i .i64,.i .i64]],false⟩] 34359737712 (some [⟨4,[.sl [.i .i64,.i .i64]],false⟩,⟨5,[.b],false⟩]) (zS [zAb 11 0,zHx 12 11,zAb 13 1,zHp 14 13,zBv 12 14 15 12,zAc 16 15,zAa 17] (.block 0 (.loop [⟨6,[.sl [.i .i64,.i .i64]],false⟩,⟨17,[.i .i64],false⟩] 34359608688 (zS [zAg 18 17 16] (zQ (zC 18 .skip (.exit 0)) (zQ (.join [⟨6,[.sl [.i .i64,.i .i64]],false⟩] 17179346288 (some [⟨4,[.sl [.i .i64,.i .i64]],false⟩,⟨5,[.b],false⟩]) (.block 1 (zS [zIg 19 15 17 1 1,zAb 8 20] (zS [zKm 21 8] (.block 2 (.loop [⟨6,[.sl [.i .i64,.i .i64]],false⟩,⟨23,[.i .i64],false⟩] 17171481712 (zS [zAg 24 23 22] (zQ (zC 24 .skip (.exit 2)) (zQ (.block 3 (zS [zIg 25 21 23 2 2,zAv 10 1000000011,zAy 10 10 26] (zQ (zS [zAt 27 6,zJs 28 10 2 124 27] (zC 29 (zS [zAz 4,zBo 5] .ret) .skip)) (zR [zHn 6 30 6 27 30,zJs 31 10 2 125 30,zHn 32 6 32 27 6])))) (zR [zIB 33 23])))))))))) (zR [zIB 34 17])))))))) (zS [zJb 6 35 6 4,zDh 5] .ret))))
def s_iWholeEdges:Sig:=⟨[.rd false Ct10,.rd false Ct20],(.tup [(false,1),(false,1)] [.sl (.own none) [.d,.d],.d])⟩
def E_iWholeEdges:TEnv:=envOf [(124,p_ihasEdge),(125,p_iwithEdge)]
def f_iWholeEdges (n:Nat):(List (List Zt20)) × (List Zt20)->Option ((List Zt20 × Bool) × Unit):=runFn n E_iWholeEdges c_iWholeEdges [Ty22,[.sl [.i .i64,.i .i64]]] Ty25 [] [4,5] .no
def g_iWholeEdges:=f_iWholeEdges BIG
def p_iWholeEdges:TSp:=⟨s_iWholeEdges,[Ty22,[.sl [.i .i64,.i .i64]]],Ty25,[],Ou.j .no,g_iWholeEdges⟩
theorem k_iWholeEdges:zK E_iWholeEdges 70 s_iWholeEdges c_iWholeEdges 36 .no [4,5]:=by show _=_;kernel_rfl
theorem ok_iWholeEdges:p_iWholeEdges.Ok PG 70:=mkOk (env_cons ok_ihasEdge (env_cons ok_iwithEdge (env_nil PG))) k_iWholeEdges (by kernel_rfl)
theorem e_iWholeEdges (n) (a0) (a1):f_iWholeEdges n (a0,a1) =
 (bif decide (a0.length<=4294967296) then
  bif decide (a0.length+[a1].length<=4294967296) then
   loopT n (X:=(List Zt20) × Int) (B:=((List Zt20)) ⊕ ((List Zt20) × Bool)) (fun self1 x0=>
    bif decide (x0.2<((a0++[a1]).length:Int)) then
     (bnd (a0++[a1]).length x0.2 fun n2=>
      Option.bind (a0++[a1])[n2]? fun y3=>
      loopT n (X:=(List Zt20) × Int) (B:=((List Zt20)) ⊕ ((List Zt20) × Bool)) (fun self5 x4=>
       bif decide (x4.2<(y3.length:Int)) then
        bnd y3.length x4.2 fun n6=>
        y3[n6]?.bind fun y7=>
        (g_ihasEdge (x4.1,y7)).bind fun r8=>
        bif r8.1 then
         some (Sum.inr ([],false))
        else (g_iwithEdge (x4.1,y7)).bind fun r9=>
        self5 (r9.1,IntKind.wrap .i64 (x4.2+1))
       else some (Sum.inl x4.1)) (x0.1,(0:Int)):Option (((List Zt20)) ⊕ ((List Zt20) × Bool))).bind fun y=>match y with
     | .inl x10=>
      self1 (x10,IntKind.wrap .i64 (x0.2+1))
     | .inr x10=>
      some (Sum.inr (x10.1,x10.2))
    else some (Sum.inl x0.1)) ([],(0:Int))
  else none
  else none:Option (((List Zt20)) ⊕ ((List Zt20) × Bool))).bind fun y=>match y with
 | .inl x11=>
  some ((x11,true),())
 | .inr x11=>
  some (x11,()):=by kernel_rfl
def c_iOnce:TC:=
 (zS [zKh 1] (zQ (zS [zJi 10 1 22 71,zJt 12 1 3,zAj 15 70 11 14,zAs 15 9 15,zGo 9 1 16 9,zGp 17 9 1,zAs 16 3 16,zAb 4 17] (zS [zAb 18 4,zBz 19 18] (zC 19 (zS [zBo 2] .ret) .skip))) (zQ (zS [zJf 20,zBw 22 21,zBw 23 22,zAo 24 1 7 23,zEi 25 24 4] (zC 25 (zS [zDh 2] .ret) .skip)) (zQ (.join [] 9223372036787667300 (some [⟨2,[.b],false⟩]) (zS [zJq 26 1 16,zAa 29] (.block 0 (.loop [⟨29,[.i .i64],false⟩] 9223372036317905252 (zS [zAg 30 29 28] (zQ (zC 30 .skip (.exit 0)) (zQ (.join [] 4611686016279904612 (some [⟨2,[.b],false⟩]) (.block 1 (zS [zAb 31 29,zIg 32 27 29 7 7,zBi 6 1000000007,zAb 5 31,zAy 6 6 33] (zS [zJi 34 6 7 72,zAc 36 35,zAa 37] (.block 2 (.loop [⟨37,[.i .i64],false⟩] 4611685880988434692 (zS [zAg 38 37 36] (zQ (zC 38 .skip (.exit 2)) (zQ (.join [] 2305842459457880324 (some [⟨2,[.b],false⟩]) (.block 3 (zS [zIg 39 35 37 2 2,zAv 8 1000000009,zAy 8 8 40] (zQ (.join [⟨60,[.b],false⟩] 2305840810190438400 none (zR [zJt 41 1 2,zIf 44 8 0,zIi 46 5,zGn 48 73 43 45 47,zJk 49 48,zDr 51 9,zGE 52 51 9,zDs 53 1 2 52 9,zIq 54 9 8 1 9,zBA 56 5 9,zHw 57 56 9,zHy 73 53 55 57 58 58 9,zIt 59 58 9 50])) (zC 60 (zS [zBo 2] .ret) .skip))))) (zR [zIB 61 37])))))))))) (zR [zIB 62 29])))))))) (zS [zDh 2] .ret)))))
def s_iOnce:Sig:=⟨[.rd true Ct0],(.one false [.d])⟩
def E_iOnce:TEnv:=envOf [(71,p_iwebs),(70,p_iWholeEdges),(72,p_iOwned),(73,p_iowns)]
def f_iOnce (n:Nat):Zt0->Option ((Bool) × Unit):=runFn n E_iOnce c_iOnce [Ty0] [.b] [] [2] .no
def g_iOnce:=f_iOnce BIG
def p_iOnce:TSp:=⟨s_iOnce,[Ty0],[.b],[],Ou.j .no,g_iOnce⟩
theorem k_iOnce:zK E_iOnce 32 s_iOnce c_iOnce 63 .no [2]:=by show _=_;kernel_rfl
theorem ok_iOnce:p_iOnce.Ok PG 32:=mkOk (env_cons ok_iwebs (env_cons ok_iWholeEdges (env_cons ok_iOwned (env_cons ok_iowns (env_nil PG))))) k_iOnce (by kernel_rfl)
theorem e_iOnce (n) (a0):f_iOnce n a0 =
 (g_iwebs a0).bind fun r0=>
 (g_iWholeEdges (r0.1,a0.2.2.2.1)).bind fun r1=>
 bif !r1.1.2 then
  some (false,())
 else bif decide (a0.2.2.2.2.2.2.2.1=4) then
  some (true,())
 else (loopT n (X:=Int) (B:=(Unit) ⊕ (Bool)) (fun self3 x2=>
  bif decide (x2<(a0.2.2.2.2.2.2.2.2.2.2.2.2.2.2.2.2.1.length:Int)) then
   (bnd a0.2.2.2.2.2.2.2.2.2.2.2.2.2.2.2.2.1.length x2 fun n4=>
    a0.2.2.2.2.2.2.2.2.2.2.2.2.2.2.2.2.1[n4]?.bind fun y5=>
    (g_iOwned y5).bind fun r6=>
    loopT n (X:=Int) (B:=(Unit) ⊕ (Bool)) (fun self8 x7=>
     bif decide (x7<(r6.1.length:Int)) then
      (bnd r6.1.length x7 fun n9=>
       r6.1[n9]?.bind fun y10=>
       ((g_iowns (a0.2.2.1,y10.1,IntKind.wrap .i64 (x2+1))).bind fun r11=>
        bif !r11.1 then
         some true
        else (g_iowns (a0.2.2.1,y10.2,IntKind.wrap .i64 (x2+1))).bind fun r12=>
        some !r12.1).bind fun x13=>
       bif x13 then
        some (Sum.inr false)
       else some (Sum.inl ())).bind fun y=>match y with
      | .inl x14=>
       self8 (IntKind.wrap .i64 (x7+1))
      | .inr x14=>
       some (Sum.inr x14)
     else some (Sum.inl ())) (0:Int):Option ((Unit) ⊕ (Bool))).bind fun y=>match y with
   | .inl x15=>
    self3 (IntKind.wrap .i64 (x2+1))
   | .inr x15=>
    some (Sum.inr x15)
  else some (Sum.inl ())) (0:Int)).bind fun y=>match y with
 | .inl x16=>
  some (true,())
 | .inr x16=>
  some (x16,()):=by kernel_rfl
def c_isameEdges:TC:=
 (zS [zBo 4] (zQ (zS [zKj 6 0 6 8 1 8] (zC 10 (zS [zBo 4] .ret) .skip)) (zQ (.join [] 67106864 (some [⟨4,[.b],false⟩]) (zS [zKm 11 0] (.block 0 (.loop [⟨13,[.i .i64],false⟩] 67100720 (zS [zAg 14 13 12] (zQ (zC 14 .skip (.exit 0)) (zQ (.block 1 (zS [zJc 15 13 5] (zS [zKf 16 0 5 20 1 5 2 2 2 2,zEc 24 19 23] (zC 24 (zS [zBo 4] .ret) .skip)))) (zR [zIB 25 13])))))))) (zS [zDh 4] .ret))))
def s_isameEdges:Sig:=⟨[.rd false Ct20,.rd false Ct20],(.one false [.d])⟩
def E_isameEdges:TEnv:=envOf []
def f_isameEdges (n:Nat):(List Zt20) × (List Zt20)->Option ((Bool) × Unit):=runFn n E_isameEdges c_isameEdges [[.sl [.i .i64,.i .i64]],[.sl [.i .i64,.i .i64]]] [.b] [] [4] .no
def g_isameEdges:=f_isameEdges BIG
def p_isameEdges:TSp:=⟨s_isameEdges,[[.sl [.i .i64,.i .i64]],[.sl [.i .i64,.i .i64]]],[.b],[],Ou.j .no,g_isameEdges⟩
theorem k_isameEdges:zK E_isameEdges 76 s_isameEdges c_isameEdges 26 .no [4]:=by show _=_;kernel_rfl
theorem ok_isameEdges:p_isameEdges.Ok PG 76:=mkOk (env_nil PG) k_isameEdges (by kernel_rfl)
theorem e_isameEdges (n) (a0) (a1):f_isameEdges n (a0,a1) = bif !decide ((a0.length:Int)=(a1.length:Int)) then some (false,()) else (loopT n (X:=Int) (B:=(Unit) ⊕ (Bool)) (fun self1 x0=> bif decide (x0<(a0.length:Int)) then bnd a0.length x0 fun n2=> a0[n2]?.bind fun y3=> bnd a1.length x0 fun n4=> a1[n4]?.bind fun y5=> bif !(decide (y3.1=y5.1)&&(decide (y3.2=y5.2)&&true)) then some (Sum.inr false) else self1 (IntKind.wrap .i64 (x0+1)) else some (Sum.inl ())) (0:Int)).bind fun y=>match y with | .inl x6=> some (true,()) | .inr x6=> some (x6,()):=by kernel_rfl
def c_isameInts:TC:=
 (zS [zBo 4] (zQ (zS [zKj 6 0 6 8 1 8] (zC 10 (zS [zBo 4] .ret) .skip)) (zQ (.join [] 67106864 (some [⟨4,[.b],false⟩]) (zS [zKm 11 0] (.block 0 (.loop [⟨13,[.i .i64],false⟩] 67100720 (zS [zAg 14 13 12] (zQ (zC 14 .skip (.exit 0)) (zQ (.block 1 (zS [zJc 15 13 5] (zS [zKf 16 0 5 20 1 5 1 1 1 1,zDB 24 19 23] (zC 24 (zS [zBo 4] .ret) .skip)))) (zR [zIB 25 13])))))))) (zS [zDh 4] .ret))))
def s_isameInts:Sig:=⟨[.rd false Ct21,.rd false Ct21],(.one false [.d])⟩
def E_isameInts:TEnv:=envOf []
def f_isameInts (n:Nat):List Int × List (Int)->Option ((Bool) × Unit):=runFn n E_isameInts c_isameInts [[.sl [.i .i64]],[.sl [.i .i64]]] [.b] [] [4] .no
def g_isameInts:=f_isameInts BIG
def p_isameInts:TSp:=⟨s_isameInts,[[.sl [.i .i64]],[.sl [.i .i64]]],[.b],[],Ou.j .no,g_isameInts⟩
theorem k_isameInts:zK E_isameInts 77 s_isameInts c_isameInts 26 .no [4]:=by show _=_;kernel_rfl
theorem ok_isameInts:p_isameInts.Ok PG 77:=mkOk (env_nil PG) k_isameInts (by kernel_rfl)
theorem e_isameInts (n) (a0) (a1):f_isameInts n (a0,a1) = bif !decide ((a0.length:Int)=(a1.length:Int)) then some (false,()) else (loopT n (X:=Int) (B:=(Unit) ⊕ (Bool)) (fun self1 x0=> bif decide (x0<(a0.length:Int)) then bnd a0.length x0 fun n2=> a0[n2]?.bind fun y3=> bnd a1.length x0 fun n4=> a1[n4]?.bind fun y5=> bif !decide (y3=y5) then some (Sum.inr false) else self1 (IntKind.wrap .i64 (x0+1)) else some (Sum.inl ())) (0:Int)).bind fun y=>match y with | .inl x6=> some (true,()) | .inr x6=> some (x6,()):=by kernel_rfl
def c_iAgrees:TC:=
 (zS [zKh 1] (zQ (zS [zKg 9 1 1 9 15,zAA 11 74 10] (zC 11 (zS [zDh 2] .ret) .skip)) (zS [zIf 13 1 0,zJf 15,zAo 17 1 15 16,zKw 18 68 14 17 12 2 2,zHd 3 1000000004,zKb 3 19 3 19] (zS [zJi 22 1 22 71,zJt 24 1 3,zKw 27 70 23 26 21 1 1,zAs 28 5 28,zAb 6 29] (zS [zIf 31 1 0,zJt 33 1 4,zJt 36 1 3,zGn 39 75 32 35 38,zJA 39 30 39 1 1,zAs 40 7 40,zAb 8 41] (zQ (.join [⟨2,[.b],false⟩] 2305838611167183012 none (zR [zAb 42 4,zKy 43 42 6 1,zIx 43 44 45,zBq 47 8 4,zIx 46 47 48,zHs 5 50 5 50 7,zDm 51 7,zHt 52 3 1 51 7,zDy 76 50 52 53 53 7,zIx 49 53 54,zHs 7 56 7 56 13,zHu 57,zHv 78 57 58 58 13,zDy 77 56 58 59 59 13,zJe 55 59 60 2])) .ret))))))
def s_iAgrees:Sig:=⟨[.rd true Ct0],(.one false [.d])⟩
def E_iAgrees:TEnv:=envOf [(74,p_iBusy),(68,p_imade),(71,p_iwebs),(70,p_iWholeEdges),(75,p_iWholeLabels),(76,p_isameEdges),(78,p_iLabels),(77,p_isameInts)]
def f_iAgrees (n:Nat):Zt0->Option ((Bool) × Unit):=runFn n E_iAgrees c_iAgrees [Ty0] [.b] [] [2] .no
def g_iAgrees:=f_iAgrees BIG
def p_iAgrees:TSp:=⟨s_iAgrees,[Ty0],[.b],[],Ou.j .no,g_iAgrees⟩
theorem k_iAgrees:zK E_iAgrees 33 s_iAgrees c_iAgrees 61 .no [2]:=by show _=_;kernel_rfl
theorem ok_iAgrees:p_iAgrees.Ok PG 33:=mkOk (env_cons ok_iBusy (env_cons ok_imade (env_cons ok_iwebs (env_cons ok_iWholeEdges (env_cons ok_iWholeLabels (env_cons ok_isameEdges (env_cons ok_iLabels (env_cons ok_isameInts (env_nil PG))))))))) k_iAgrees (by kernel_rfl)
theorem e_iAgrees (n) (a0):f_iAgrees n a0 = (g_iBusy (a0.2.1,a0.2.2.1,a0.2.2.2.1,a0.2.2.2.2.1,a0.2.2.2.2.2.1,a0.2.2.2.2.2.2.1,a0.2.2.2.2.2.2.2.1,a0.2.2.2.2.2.2.2.2.1,a0.2.2.2.2.2.2.2.2.2.1,a0.2.2.2.2.2.2.2.2.2.2.1,a0.2.2.2.2.2.2.2.2.2.2.2.1,a0.2.2.2.2.2.2.2.2.2.2.2.2.1,a0.2.2.2.2.2.2.2.2.2.2.2.2.2.1,a0.2.2.2.2.2.2.2.2.2.2.2.2.2.2.1,a0.2.2.2.2.2.2.2.2.2.2.2.2.2.2.2.1)).bind fun r0=> bif r0.1 then some (true,()) else (g_imade (a0.1,a0.2.2.2.2.2.2.2.2.2.2.2.2.2.2.2.1)).bind fun r1=> (g_iwebs a0).bind fun r2=> (g_iWholeEdges (r2.1,a0.2.2.2.1)).bind fun r3=> (g_iWholeLabels (a0.1,a0.2.2.2.2.1,a0.2.2.2.1)).bind fun r4=> (bif r1.1.2.2 then bif r3.1.2 then bif r4.1.2 then (g_isameEdges (r3.1.1,r1.1.2.1)).bind fun r5=> bif r5.1 then (g_iLabels (r1.1.1,r1.1.2.1)).bind fun r6=> (g_isameInts (r4.1.1,r6.1)).bind fun r7=> some r7.1 else some false else some false else some false else some false).bind fun x8=> some (x8,()):=by kernel_rfl
def c_iSound:TC:=
 (zS [zKh 1] (zS [zIj 9 1 0 9,zJq 11 1 16,zIf 14 1 21,zGn 16 28 10 13 15,zAs 16 8 16,[o1 17 (.ext 8 0 15)],zGp 18 8 15,zBe 3 1000000004,zAy 3 3 17,zAb 4 18] (zQ (.seq (.join [⟨45,[.b],false⟩] 70368743653376 none (zR [zAb 19 4,zJk 20 19,zIq 22 2 1 18 2,zEv 24 23 2,zIq 25 2 1 16 2,zEv 27 26 2,zHw 28 27 2,zJx 29 24 28 2 21,zAb 31 30,zIw 32 12 1 18,[o2 34 (.index 33 (kD 0)) 12 false],zDE 35 33 34 12,zBA 36 35 12,zIs 37 17 3 14,zKp 39 17 1 15,zDy 29 38 41 42 42 17,zDz 43 42 17,zLa 36 43 44 44 12 31])) (zC 45 (zS [zBo 2] .ret) .skip)) (zS [zAx 46 1 22,zBn 5 1000000006,zAy 5 5 46] (zS [zAx 47 3 15,zAn 48,zGd 5 5 1 48 47] (zQ (.seq (.join [⟨62,[.b],false⟩] 9222809086901354496 none (zR [zIv 49 1 0 3 14,zIp 53 30 50 52,zKz 55 54 6 1 20 6,zIq 58 6 3 14 6,zEh 31 57 59 60 60 6,zIt 61 60 6 55])) (zC 62 (zS [zBo 2] .ret) .skip)) (zQ (.join [] 9435509593702435651716 (some [⟨2,[.b],false⟩]) (zS [zJq 63 1 18,zAa 66] (.block 0 (.loop [⟨66,[.i .i64],false⟩] 9370945989444452221060 (zS [zAg 67 66 65] (zQ (zC 67 .skip (.exit 0)) (zQ (.block 1 (zS [zIg 68 64 66 1 1,zAb 7 69] (zS [zAb 70 7,zBz 71 70] (zC 71 (zS [zDh 2] .ret) .skip)))) (zR [zIB 72 66])))))))) (zQ (.join [⟨2,[.b],false⟩] 595018176841575296925700 none (zR [zJi 73 5 22 32,zAb 75 74,zEr 76 5 22 2,zHv 33 76 77 77 2,zJe 75 77 78 2])) .ret))))))))
def s_iSound:Sig:=⟨[.rd true Ct0],(.one false [.d])⟩
def E_iSound:TEnv:=envOf [(28,p_iHeadFrom),(29,p_isameSaid),(30,p_iFollows),(31,p_iInTime),(32,p_iOnce),(33,p_iAgrees)]
def f_iSound (n:Nat):Zt0->Option ((Bool) × Unit):=runFn n E_iSound c_iSound [Ty0] [.b] [] [2] .no
def g_iSound:=f_iSound BIG
def p_iSound:TSp:=⟨s_iSound,[Ty0],[.b],[],Ou.j .no,g_iSound⟩
theorem k_iSound:zK E_iSound 7 s_iSound c_iSound 79 .no [2]:=by show _=_;kernel_rfl
theorem ok_iSound:p_iSound.Ok PG 7:=mkOk (env_cons ok_iHeadFrom (env_cons ok_isameSaid (env_cons ok_iFollows (env_cons ok_iInTime (env_cons ok_iOnce (env_cons ok_iAgrees (env_nil PG))))))) k_iSound (by kernel_rfl)
theorem e_iSound (n) (a0):f_iSound n a0 = (g_iHeadFrom (a0.1,(a0.2.2.2.2.2.2.2.2.2.2.2.2.2.2.2.2.1.length:Int),a0.2.2.2.2.2.2.2.2.2.2.2.2.2.2.2.2.2.2.2.2.2)).bind fun r0=> (bif !r0.1.2.2.2.2.2.2.2.2.2.2.2.2.2.2.2 then some true else bif !decide ((a0.2.2.2.2.2.2.2.2.2.2.2.2.2.2.2.2.2.2.1.length:Int)=(IntKind.wrap .i64 ((a0.2.2.2.2.2.2.2.2.2.2.2.2.2.2.2.2.1.length:Int)+1))) then some true else bnd a0.2.2.2.2.2.2.2.2.2.2.2.2.2.2.2.2.2.2.1.length (0:Int) fun n1=> a0.2.2.2.2.2.2.2.2.2.2.2.2.2.2.2.2.2.2.1[n1]?.bind fun y2=> bif y2 then (g_isameSaid (r0.1.2.2.2.2.2.2.2.2.2.2.2.2.2.2.1,a0.2.2.2.2.2.2.2.2.2.2.2.2.2.2.2.1)).bind fun r3=> some !r3.1 else some false).bind fun x4=> bif x4 then some (false,()) else ((g_iFollows (a0.1,r0.1.2.2.2.2.2.2.2.2.2.2.2.2.2.2.1)).bind fun r5=> bif !r5.1 then some true else (g_iInTime (a0.2.2.2.2.2.2.2.2.2.2.2.2.2.2.2.2.2.2.2.2.1,r0.1.2.2.2.2.2.2.2.2.2.2.2.2.2.2.1)).bind fun r6=> some !r6.1).bind fun x7=> bif x7 then some (false,()) else (loopT n (X:=Int) (B:=(Unit) ⊕ (Bool)) (fun self9 x8=> bif decide (x8<(a0.2.2.2.2.2.2.2.2.2.2.2.2.2.2.2.2.2.2.1.length:Int)) then bnd a0.2.2.2.2.2.2.2.2.2.2.2.2.2.2.2.2.2.2.1.length x8 fun n10=> a0.2.2.2.2.2.2.2.2.2.2.2.2.2.2.2.2.2.2.1[n10]?.bind fun y11=> bif !y11 then some (Sum.inr true) else self9 (IntKind.wrap .i64 (x8+1)) else some (Sum.inl ())) (0:Int)).bind fun y=>match y with | .inl x12=> ((g_iOnce (a0.1,r0.1.1,r0.1.2.1,r0.1.2.2.1,r0.1.2.2.2.1,r0.1.2.2.2.2.1,r0.1.2.2.2.2.2.1,r0.1.2.2.2.2.2.2.1,r0.1.2.2.2.2.2.2.2.1,r0.1.2.2.2.2.2.2.2.2.1,r0.1.2.2.2.2.2.2.2.2.2.1,r0.1.2.2.2.2.2.2.2.2.2.2.1,r0.1.2.2.2.2.2.2.2.2.2.2.2.1,r0.1.2.2.2.2.2.2.2.2.2.2.2.2.1,r0.1.2.2.2.2.2.2.2.2.2.2.2.2.2.1,r0.1.2.2.2.2.2.2.2.2.2.2.2.2.2.2.1,a0.2.2.2.2.2.2.2.2.2.2.2.2.2.2.2.2)).bind fun r13=> bif r13.1 then (g_iAgrees (a0.1,r0.1.1,r0.1.2.1,r0.1.2.2.1,r0.1.2.2.2.1,r0.1.2.2.2.2.1,r0.1.2.2.2.2.2.1,r0.1.2.2.2.2.2.2.1,r0.1.2.2.2.2.2.2.2.1,r0.1.2.2.2.2.2.2.2.2.1,r0.1.2.2.2.2.2.2.2.2.2.1,r0.1.2.2.2.2.2.2.2.2.2.2.1,r0.1.2.2.2.2.2.2.2.2.2.2.2.1,r0.1.2.2.2.2.2.2.2.2.2.2.2.2.1,r0.1.2.2.2.2.2.2.2.2.2.2.2.2.2.1,r0.1.2.2.2.2.2.2.2.2.2.2.2.2.2.2.1,a0.2.2.2.2.2.2.2.2.2.2.2.2.2.2.2.2)).bind fun r14=> some r14.1 else some false).bind fun x15=> some (x15,()) | .inr x12=> some (x12,()):=by kernel_rfl
def c_leqIntS:TC:=
 (zS [zBo 4] (zQ (zS [zKj 6 0 6 8 1 8] (zC 10 (zS [zBo 4] .ret) .skip)) (zQ (.join [] 67106864 (some [⟨4,[.b],false⟩]) (zS [zAa 5] (.block 0 (.loop [⟨5,[.i .i64],false⟩] 67106864 (zQ (zS [zIr 11 5 0] (zC 14 .skip (.exit 0))) (zQ (.block 1 (zS [zKf 17 0 5 21 1 5 1 1 1 1,zDB 25 20 24] (zC 25 (zS [zBo 4] .ret) .skip))) (zR [zIo 15 5 5]))))))) (zS [zDh 4] .ret))))
def s_leqIntS:Sig:=⟨[.rd false Ct21,.rd false Ct21],(.one false [.d])⟩
def E_leqIntS:TEnv:=envOf []
def f_leqIntS (n:Nat):List Int × List (Int)->Option ((Bool) × Unit):=runFn n E_leqIntS c_leqIntS [[.sl [.i .i64]],[.sl [.i .i64]]] [.b] [] [4] .no
def g_leqIntS:=f_leqIntS BIG
def p_leqIntS:TSp:=⟨s_leqIntS,[[.sl [.i .i64]],[.sl [.i .i64]]],[.b],[],Ou.j .no,g_leqIntS⟩
theorem k_leqIntS:zK E_leqIntS 79 s_leqIntS c_leqIntS 26 .no [4]:=by show _=_;kernel_rfl
theorem ok_leqIntS:p_leqIntS.Ok PG 79:=mkOk (env_nil PG) k_leqIntS (by kernel_rfl)
theorem e_leqIntS (n) (a0) (a1):f_leqIntS n (a0,a1) = bif !decide ((a0.length:Int)=(a1.length:Int)) then some (false,()) else (loopT n (X:=Int) (B:=(Unit) ⊕ (Bool)) (fun self1 x0=> bif decide (x0<(a0.length:Int)) then bnd a0.length x0 fun n2=> a0[n2]?.bind fun y3=> bnd a1.length x0 fun n4=> a1[n4]?.bind fun y5=> bif !decide (y3=y5) then some (Sum.inr false) else self1 (IntKind.wrap .i64 (x0+1)) else some (Sum.inl ())) (0:Int)).bind fun y=>match y with | .inl x6=> some (true,()) | .inr x6=> some (x6,()):=by kernel_rfl
def c_leqEdge:TC:=
 (zS [zJB 2 1] (zQ (zS [zLd 5 2 0 5 7 3 0 7,zDB 9 6 8] (zC 9 (zS [zBo 4] .ret) .skip)) (zQ (zS [zKa 10 2 1 3 1 14 13] (zC 14 (zS [zBo 4] .ret) .skip)) (zS [zDh 4] .ret))))
def s_leqEdge:Sig:=⟨[.rd true [.d,.d],.rd true [.d,.d]],(.one false [.d])⟩
def E_leqEdge:TEnv:=envOf []
def f_leqEdge (n:Nat):Zt20 × Zt20->Option ((Bool) × Unit):=runFn n E_leqEdge c_leqEdge [[.i .i64,.i .i64],[.i .i64,.i .i64]] [.b] [] [4] .no
def g_leqEdge:=f_leqEdge BIG
def p_leqEdge:TSp:=⟨s_leqEdge,[[.i .i64,.i .i64],[.i .i64,.i .i64]],[.b],[],Ou.j .no,g_leqEdge⟩
theorem k_leqEdge:zK E_leqEdge 130 s_leqEdge c_leqEdge 15 .no [4]:=by show _=_;kernel_rfl
theorem ok_leqEdge:p_leqEdge.Ok PG 130:=mkOk (env_nil PG) k_leqEdge (by kernel_rfl)
theorem e_leqEdge (n) (a0) (a1):f_leqEdge n (a0,a1) = bif !decide (a0.1=a1.1) then some (false,()) else bif !decide (a0.2=a1.2) then some (false,()) else some (true,()):=by kernel_rfl
def c_leqEdgeS:TC:=
 (zS [zBo 4] (zQ (zS [zKj 6 0 6 8 1 8] (zC 10 (zS [zBo 4] .ret) .skip)) (zQ (.join [] 134215728 (some [⟨4,[.b],false⟩]) (zS [zAa 5] (.block 0 (.loop [⟨5,[.i .i64],false⟩] 134215728 (zQ (zS [zIr 11 5 0] (zC 14 .skip (.exit 0))) (zQ (.block 1 (zS [zKf 17 0 5 21 1 5 2 2 2 2,zIp 25 130 20 24] (zC 26 (zS [zBo 4] .ret) .skip))) (zR [zIo 15 5 5]))))))) (zS [zDh 4] .ret))))
def s_leqEdgeS:Sig:=⟨[.rd false Ct20,.rd false Ct20],(.one false [.d])⟩
def E_leqEdgeS:TEnv:=envOf [(130,p_leqEdge)]
def f_leqEdgeS (n:Nat):(List Zt20) × (List Zt20)->Option ((Bool) × Unit):=runFn n E_leqEdgeS c_leqEdgeS [[.sl [.i .i64,.i .i64]],[.sl [.i .i64,.i .i64]]] [.b] [] [4] .no
def g_leqEdgeS:=f_leqEdgeS BIG
def p_leqEdgeS:TSp:=⟨s_leqEdgeS,[[.sl [.i .i64,.i .i64]],[.sl [.i .i64,.i .i64]]],[.b],[],Ou.j .no,g_leqEdgeS⟩
theorem k_leqEdgeS:zK E_leqEdgeS 80 s_leqEdgeS c_leqEdgeS 27 .no [4]:=by show _=_;kernel_rfl
theorem ok_leqEdgeS:p_leqEdgeS.Ok PG 80:=mkOk (env_cons ok_leqEdge (env_nil PG)) k_leqEdgeS (by kernel_rfl)
theorem e_leqEdgeS (n) (a0) (a1):f_leqEdgeS n (a0,a1) = bif !decide ((a0.length:Int)=(a1.length:Int)) then some (false,()) else (loopT n (X:=Int) (B:=(Unit) ⊕ (Bool)) (fun self1 x0=> bif decide (x0<(a0.length:Int)) then bnd a0.length x0 fun n2=> a0[n2]?.bind fun y3=> bnd a1.length x0 fun n4=> a1[n4]?.bind fun y5=> (g_leqEdge (y3,y5)).bind fun r6=> bif !r6.1 then some (Sum.inr false) else self1 (IntKind.wrap .i64 (x0+1)) else some (Sum.inl ())) (0:Int)).bind fun y=>match y with | .inl x7=> some (true,()) | .inr x7=> some (x7,()):=by kernel_rfl
def c_leqIntSS:TC:=
 (zS [zBo 4] (zQ (zS [zKj 6 0 6 8 1 8] (zC 10 (zS [zBo 4] .ret) .skip)) (zQ (.join [] 134215728 (some [⟨4,[.b],false⟩]) (zS [zAa 5] (.block 0 (.loop [⟨5,[.i .i64],false⟩] 134215728 (zQ (zS [zIr 11 5 0] (zC 14 .skip (.exit 0))) (zQ (.block 1 (zS [zKf 17 0 5 21 1 5 1 1 1 1,zIp 25 79 20 24] (zC 26 (zS [zBo 4] .ret) .skip))) (zR [zIo 15 5 5]))))))) (zS [zDh 4] .ret))))
def s_leqIntSS:Sig:=⟨[.rd false Ct11,.rd false Ct11],(.one false [.d])⟩
def E_leqIntSS:TEnv:=envOf [(79,p_leqIntS)]
def f_leqIntSS (n:Nat):List (List Int) × List (List Int)->Option ((Bool) × Unit):=runFn n E_leqIntSS c_leqIntSS [[.sl [.sl [.i .i64]]],[.sl [.sl [.i .i64]]]] [.b] [] [4] .no
def g_leqIntSS:=f_leqIntSS BIG
def p_leqIntSS:TSp:=⟨s_leqIntSS,[[.sl [.sl [.i .i64]]],[.sl [.sl [.i .i64]]]],[.b],[],Ou.j .no,g_leqIntSS⟩
theorem k_leqIntSS:zK E_leqIntSS 81 s_leqIntSS c_leqIntSS 27 .no [4]:=by show _=_;kernel_rfl
theorem ok_leqIntSS:p_leqIntSS.Ok PG 81:=mkOk (env_cons ok_leqIntS (env_nil PG)) k_leqIntSS (by kernel_rfl)
theorem e_leqIntSS (n) (a0) (a1):f_leqIntSS n (a0,a1) = bif !decide ((a0.length:Int)=(a1.length:Int)) then some (false,()) else (loopT n (X:=Int) (B:=(Unit) ⊕ (Bool)) (fun self1 x0=> bif decide (x0<(a0.length:Int)) then bnd a0.length x0 fun n2=> a0[n2]?.bind fun y3=> bnd a1.length x0 fun n4=> a1[n4]?.bind fun y5=> (g_leqIntS (y3,y5)).bind fun r6=> bif !r6.1 then some (Sum.inr false) else self1 (IntKind.wrap .i64 (x0+1)) else some (Sum.inl ())) (0:Int)).bind fun y=>match y with | .inl x7=> some (true,()) | .inr x7=> some (x7,()):=by kernel_rfl
def c_leqAsk:TC:=
 (zS [zJB 2 1] (zQ (zS [zLd 5 2 0 5 7 3 0 7,zDB 9 6 8] (zC 9 (zS [zBo 4] .ret) .skip)) (zQ (zS [zKa 10 2 1 3 1 14 13] (zC 14 (zS [zBo 4] .ret) .skip)) (zQ (zS [zKa 15 2 2 3 2 19 18] (zC 19 (zS [zBo 4] .ret) .skip)) (zQ (zS [zKa 20 2 3 3 3 24 23] (zC 24 (zS [zBo 4] .ret) .skip)) (zS [zDh 4] .ret))))))
def s_leqAsk:Sig:=⟨[.rd true [.d,.d,.d,.d],.rd true [.d,.d,.d,.d]],(.one false [.d])⟩
def E_leqAsk:TEnv:=envOf []
def f_leqAsk (n:Nat):Zt19 × Zt19->Option ((Bool) × Unit):=runFn n E_leqAsk c_leqAsk [Ty19,Ty19] [.b] [] [4] .no
def g_leqAsk:=f_leqAsk BIG
def p_leqAsk:TSp:=⟨s_leqAsk,[Ty19,Ty19],[.b],[],Ou.j .no,g_leqAsk⟩
theorem k_leqAsk:zK E_leqAsk 131 s_leqAsk c_leqAsk 25 .no [4]:=by show _=_;kernel_rfl
theorem ok_leqAsk:p_leqAsk.Ok PG 131:=mkOk (env_nil PG) k_leqAsk (by kernel_rfl)
theorem e_leqAsk (n) (a0) (a1):f_leqAsk n (a0,a1) = bif !decide (a0.1=a1.1) then some (false,()) else bif !decide (a0.2.1=a1.2.1) then some (false,()) else bif !decide (a0.2.2.1=a1.2.2.1) then some (false,()) else bif !decide (a0.2.2.2=a1.2.2.2) then some (false,()) else some (true,()):=by kernel_rfl
def c_leqOrder:TC:=
 (zS [zJB 2 1] (zQ (zS [zLd 5 2 0 5 7 3 0 7,zDB 9 6 8] (zC 9 (zS [zBo 4] .ret) .skip)) (zQ (zS [zKa 10 2 1 3 1 14 13] (zC 14 (zS [zBo 4] .ret) .skip)) (zQ (zS [zIv 15 2 2 3 2,zIp 19 80 16 18] (zC 20 (zS [zBo 4] .ret) .skip)) (zQ (zS [zKa 21 2 3 3 3 25 24] (zC 25 (zS [zBo 4] .ret) .skip)) (zS [zDh 4] .ret))))))
def s_leqOrder:Sig:=⟨[.rd true Ct14,.rd true Ct14],(.one false [.d])⟩
def E_leqOrder:TEnv:=envOf [(80,p_leqEdgeS)]
def f_leqOrder (n:Nat):Zt13 × Zt13->Option ((Bool) × Unit):=runFn n E_leqOrder c_leqOrder [Ty14,Ty14] [.b] [] [4] .no
def g_leqOrder:=f_leqOrder BIG
def p_leqOrder:TSp:=⟨s_leqOrder,[Ty14,Ty14],[.b],[],Ou.j .no,g_leqOrder⟩
theorem k_leqOrder:zK E_leqOrder 132 s_leqOrder c_leqOrder 26 .no [4]:=by show _=_;kernel_rfl
theorem ok_leqOrder:p_leqOrder.Ok PG 132:=mkOk (env_cons ok_leqEdgeS (env_nil PG)) k_leqOrder (by kernel_rfl)
theorem e_leqOrder (n) (a0) (a1):f_leqOrder n (a0,a1) = bif !decide (a0.1=a1.1) then some (false,()) else bif !decide (a0.2.1=a1.2.1) then some (false,()) else (g_leqEdgeS (a0.2.2.1,a1.2.2.1)).bind fun r0=> bif !r0.1 then some (false,()) else bif !decide (a0.2.2.2=a1.2.2.2) then some (false,()) else some (true,()):=by kernel_rfl
def c_leqTask:TC:=
 (zS [zJB 2 1] (zQ (zS [zKg 5 2 0 5 4,zKg 7 3 0 7 4,zAj 9 131 6 8,zBz 10 9] (zC 10 (zS [zBo 4] .ret) .skip)) (zQ (zS [zKa 11 2 4 3 4 15 14] (zC 15 (zS [zBo 4] .ret) .skip)) (zQ (zS [zIu 16 2 5 4,zLc 18 3 5 4 132 17] (zC 21 (zS [zBo 4] .ret) .skip)) (zS [zDh 4] .ret)))))
def s_leqTask:Sig:=⟨[.rd true Ct8,.rd true Ct8],(.one false [.d])⟩
def E_leqTask:TEnv:=envOf [(131,p_leqAsk),(132,p_leqOrder)]
def f_leqTask (n:Nat):Zt9 × Zt9->Option ((Bool) × Unit):=runFn n E_leqTask c_leqTask [Ty8,Ty8] [.b] [] [4] .no
def g_leqTask:=f_leqTask BIG
def p_leqTask:TSp:=⟨s_leqTask,[Ty8,Ty8],[.b],[],Ou.j .no,g_leqTask⟩
theorem k_leqTask:zK E_leqTask 82 s_leqTask c_leqTask 22 .no [4]:=by show _=_;kernel_rfl
theorem ok_leqTask:p_leqTask.Ok PG 82:=mkOk (env_cons ok_leqAsk (env_cons ok_leqOrder (env_nil PG))) k_leqTask (by kernel_rfl)
theorem e_leqTask (n) (a0) (a1):f_leqTask n (a0,a1) = (g_leqAsk ((a0.1,a0.2.1,a0.2.2.1,a0.2.2.2.1),(a1.1,a1.2.1,a1.2.2.1,a1.2.2.2.1))).bind fun r0=> bif !r0.1 then some (false,()) else bif !decide (a0.2.2.2.2.1=a1.2.2.2.2.1) then some (false,()) else (g_leqOrder (a0.2.2.2.2.2,a1.2.2.2.2.2)).bind fun r1=> bif !r1.1 then some (false,()) else some (true,()):=by kernel_rfl
def c_leqSaid:TC:=
 (zS [zJB 2 1] (zQ (zS [zLd 5 2 0 5 7 3 0 7,zDB 9 6 8] (zC 9 (zS [zBo 4] .ret) .skip)) (zQ (zS [zIu 10 2 1 4,zLc 12 3 1 4 131 11] (zC 15 (zS [zBo 4] .ret) .skip)) (zQ (zS [zKa 16 2 5 3 5 20 19] (zC 20 (zS [zBo 4] .ret) .skip)) (zS [zDh 4] .ret)))))
def s_leqSaid:Sig:=⟨[.rd true Ct23,.rd true Ct23],(.one false [.d])⟩
def E_leqSaid:TEnv:=envOf [(131,p_leqAsk)]
def f_leqSaid (n:Nat):Zt14 × Zt14->Option ((Bool) × Unit):=runFn n E_leqSaid c_leqSaid [Ty12,Ty12] [.b] [] [4] .no
def g_leqSaid:=f_leqSaid BIG
def p_leqSaid:TSp:=⟨s_leqSaid,[Ty12,Ty12],[.b],[],Ou.j .no,g_leqSaid⟩
theorem k_leqSaid:zK E_leqSaid 133 s_leqSaid c_leqSaid 21 .no [4]:=by show _=_;kernel_rfl
theorem ok_leqSaid:p_leqSaid.Ok PG 133:=mkOk (env_cons ok_leqAsk (env_nil PG)) k_leqSaid (by kernel_rfl)
theorem e_leqSaid (n) (a0) (a1):f_leqSaid n (a0,a1) = bif !decide (a0.1=a1.1) then some (false,()) else (g_leqAsk ((a0.2.1,a0.2.2.1,a0.2.2.2.1,a0.2.2.2.2.1),(a1.2.1,a1.2.2.1,a1.2.2.2.1,a1.2.2.2.2.1))).bind fun r0=> bif !r0.1 then some (false,()) else bif !decide (a0.2.2.2.2.2=a1.2.2.2.2.2) then some (false,()) else some (true,()):=by kernel_rfl
def c_leqSaidS:TC:=
 (zS [zBo 4] (zQ (zS [zKj 6 0 6 8 1 8] (zC 10 (zS [zBo 4] .ret) .skip)) (zQ (.join [] 134215728 (some [⟨4,[.b],false⟩]) (zS [zAa 5] (.block 0 (.loop [⟨5,[.i .i64],false⟩] 134215728 (zQ (zS [zIr 11 5 0] (zC 14 .skip (.exit 0))) (zQ (.block 1 (zS [zKf 17 0 5 21 1 5 6 6 6 6,zIp 25 133 20 24] (zC 26 (zS [zBo 4] .ret) .skip))) (zR [zIo 15 5 5]))))))) (zS [zDh 4] .ret))))
def s_leqSaidS:Sig:=⟨[.rd false Ct13,.rd false Ct13],(.one false [.d])⟩
def E_leqSaidS:TEnv:=envOf [(133,p_leqSaid)]
def f_leqSaidS (n:Nat):(List Zt14) × (List Zt14)->Option ((Bool) × Unit):=runFn n E_leqSaidS c_leqSaidS [Ty11,Ty11] [.b] [] [4] .no
def g_leqSaidS:=f_leqSaidS BIG
def p_leqSaidS:TSp:=⟨s_leqSaidS,[Ty11,Ty11],[.b],[],Ou.j .no,g_leqSaidS⟩
theorem k_leqSaidS:zK E_leqSaidS 83 s_leqSaidS c_leqSaidS 27 .no [4]:=by show _=_;kernel_rfl
theorem ok_leqSaidS:p_leqSaidS.Ok PG 83:=mkOk (env_cons ok_leqSaid (env_nil PG)) k_leqSaidS (by kernel_rfl)
theorem e_leqSaidS (n) (a0) (a1):f_leqSaidS n (a0,a1) = bif !decide ((a0.length:Int)=(a1.length:Int)) then some (false,()) else (loopT n (X:=Int) (B:=(Unit) ⊕ (Bool)) (fun self1 x0=> bif decide (x0<(a0.length:Int)) then bnd a0.length x0 fun n2=> a0[n2]?.bind fun y3=> bnd a1.length x0 fun n4=> a1[n4]?.bind fun y5=> (g_leqSaid (y3,y5)).bind fun r6=> bif !r6.1 then some (Sum.inr false) else self1 (IntKind.wrap .i64 (x0+1)) else some (Sum.inl ())) (0:Int)).bind fun y=>match y with | .inl x7=> some (true,()) | .inr x7=> some (x7,()):=by kernel_rfl
def c_leqHead:TC:=
 (zS [zJB 2 1] (zQ (zS [zLd 5 2 0 5 7 3 0 7,zDB 9 6 8] (zC 9 (zS [zBo 4] .ret) .skip)) (zQ (zS [zIv 10 2 1 3 1,zIp 14 79 11 13] (zC 15 (zS [zBo 4] .ret) .skip)) (zQ (zS [zIv 16 2 2 3 2,zIp 20 80 17 19] (zC 21 (zS [zBo 4] .ret) .skip)) (zQ (zS [zIv 22 2 3 3 3,zIp 26 81 23 25] (zC 27 (zS [zBo 4] .ret) .skip)) (zQ (zS [zIv 28 2 4 3 4,zIp 32 79 29 31] (zC 33 (zS [zBo 4] .ret) .skip)) (zQ (zS [zIu 34 2 5 9,zLc 36 3 5 9 82 35] (zC 39 (zS [zBo 4] .ret) .skip)) (zQ (zS [zIf 40 2 14,zIf 42 3 14,zIp 44 83 41 43] (zC 45 (zS [zBo 4] .ret) .skip)) (zS [zDh 4] .ret)))))))))
def s_leqHead:Sig:=⟨[.rd true Ct2,.rd true Ct2],(.one false [.d])⟩
def E_leqHead:TEnv:=envOf [(79,p_leqIntS),(80,p_leqEdgeS),(81,p_leqIntSS),(82,p_leqTask),(83,p_leqSaidS)]
def f_leqHead (n:Nat):Zt4 × Zt4->Option ((Bool) × Unit):=runFn n E_leqHead c_leqHead [Ty3,Ty3] [.b] [] [4] .no
def g_leqHead:=f_leqHead BIG
def p_leqHead:TSp:=⟨s_leqHead,[Ty3,Ty3],[.b],[],Ou.j .no,g_leqHead⟩
theorem k_leqHead:zK E_leqHead 34 s_leqHead c_leqHead 46 .no [4]:=by show _=_;kernel_rfl
theorem ok_leqHead:p_leqHead.Ok PG 34:=mkOk (env_cons ok_leqIntS (env_cons ok_leqEdgeS (env_cons ok_leqIntSS (env_cons ok_leqTask (env_cons ok_leqSaidS (env_nil PG)))))) k_leqHead (by kernel_rfl)
theorem e_leqHead (n) (a0) (a1):f_leqHead n (a0,a1) = bif !decide (a0.1=a1.1) then some (false,()) else (g_leqIntS (a0.2.1,a1.2.1)).bind fun r0=> bif !r0.1 then some (false,()) else (g_leqEdgeS (a0.2.2.1,a1.2.2.1)).bind fun r1=> bif !r1.1 then some (false,()) else (g_leqIntSS (a0.2.2.2.1,a1.2.2.2.1)).bind fun r2=> bif !r2.1 then some (false,()) else (g_leqIntS (a0.2.2.2.2.1,a1.2.2.2.2.1)).bind fun r3=> bif !r3.1 then some (false,()) else (g_leqTask ((a0.2.2.2.2.2.1,a0.2.2.2.2.2.2.1,a0.2.2.2.2.2.2.2.1,a0.2.2.2.2.2.2.2.2.1,a0.2.2.2.2.2.2.2.2.2.1,a0.2.2.2.2.2.2.2.2.2.2.1,a0.2.2.2.2.2.2.2.2.2.2.2.1,a0.2.2.2.2.2.2.2.2.2.2.2.2.1,a0.2.2.2.2.2.2.2.2.2.2.2.2.2.1),(a1.2.2.2.2.2.1,a1.2.2.2.2.2.2.1,a1.2.2.2.2.2.2.2.1,a1.2.2.2.2.2.2.2.2.1,a1.2.2.2.2.2.2.2.2.2.1,a1.2.2.2.2.2.2.2.2.2.2.1,a1.2.2.2.2.2.2.2.2.2.2.2.1,a1.2.2.2.2.2.2.2.2.2.2.2.2.1,a1.2.2.2.2.2.2.2.2.2.2.2.2.2.1))).bind fun r4=> bif !r4.1 then some (false,()) else (g_leqSaidS (a0.2.2.2.2.2.2.2.2.2.2.2.2.2.2,a1.2.2.2.2.2.2.2.2.2.2.2.2.2.2)).bind fun r5=> bif !r5.1 then some (false,()) else some (true,()):=by kernel_rfl
def c_leqLedge:TC:=
 (zS [zJB 2 1] (zQ (zS [zLd 5 2 0 5 7 3 0 7,zDB 9 6 8] (zC 9 (zS [zBo 4] .ret) .skip)) (zQ (zS [zKa 10 2 1 3 1 14 13] (zC 14 (zS [zBo 4] .ret) .skip)) (zQ (zS [zKa 15 2 2 3 2 19 18] (zC 19 (zS [zBo 4] .ret) .skip)) (zQ (zS [zIv 20 2 3 3 3,zIe 24 21 23] (zC 24 (zS [zBo 4] .ret) .skip)) (zS [zDh 4] .ret))))))
def s_leqLedge:Sig:=⟨[.rd true [.d,.d,.d,.d],.rd true [.d,.d,.d,.d]],(.one false [.d])⟩
def E_leqLedge:TEnv:=envOf []
def f_leqLedge (n:Nat):Zt16 × Zt16->Option ((Bool) × Unit):=runFn n E_leqLedge c_leqLedge [Ty21,Ty21] [.b] [] [4] .no
def g_leqLedge:=f_leqLedge BIG
def p_leqLedge:TSp:=⟨s_leqLedge,[Ty21,Ty21],[.b],[],Ou.j .no,g_leqLedge⟩
theorem k_leqLedge:zK E_leqLedge 190 s_leqLedge c_leqLedge 25 .no [4]:=by show _=_;kernel_rfl
theorem ok_leqLedge:p_leqLedge.Ok PG 190:=mkOk (env_nil PG) k_leqLedge (by kernel_rfl)
theorem e_leqLedge (n) (a0) (a1):f_leqLedge n (a0,a1) = bif !decide (a0.1=a1.1) then some (false,()) else bif !decide (a0.2.1=a1.2.1) then some (false,()) else bif !decide (a0.2.2.1=a1.2.2.1) then some (false,()) else bif !(a0.2.2.2 == a1.2.2.2) then some (false,()) else some (true,()):=by kernel_rfl
def c_leqLedgeS:TC:=
 (zS [zBo 4] (zQ (zS [zKj 6 0 6 8 1 8] (zC 10 (zS [zBo 4] .ret) .skip)) (zQ (.join [] 134215728 (some [⟨4,[.b],false⟩]) (zS [zAa 5] (.block 0 (.loop [⟨5,[.i .i64],false⟩] 134215728 (zQ (zS [zIr 11 5 0] (zC 14 .skip (.exit 0))) (zQ (.block 1 (zS [zKf 17 0 5 21 1 5 4 4 4 4,zIp 25 190 20 24] (zC 26 (zS [zBo 4] .ret) .skip))) (zR [zIo 15 5 5]))))))) (zS [zDh 4] .ret))))
def s_leqLedgeS:Sig:=⟨[.rd false Ct16,.rd false Ct16],(.one false [.d])⟩
def E_leqLedgeS:TEnv:=envOf [(190,p_leqLedge)]
def f_leqLedgeS (n:Nat):(List Zt16) × (List Zt16)->Option ((Bool) × Unit):=runFn n E_leqLedgeS c_leqLedgeS [Ty17,Ty17] [.b] [] [4] .no
def g_leqLedgeS:=f_leqLedgeS BIG
def p_leqLedgeS:TSp:=⟨s_leqLedgeS,[Ty17,Ty17],[.b],[],Ou.j .no,g_leqLedgeS⟩
theorem k_leqLedgeS:zK E_leqLedgeS 178 s_leqLedgeS c_leqLedgeS 27 .no [4]:=by show _=_;kernel_rfl
theorem ok_leqLedgeS:p_leqLedgeS.Ok PG 178:=mkOk (env_cons ok_leqLedge (env_nil PG)) k_leqLedgeS (by kernel_rfl)
theorem e_leqLedgeS (n) (a0) (a1):f_leqLedgeS n (a0,a1) = bif !decide ((a0.length:Int)=(a1.length:Int)) then some (false,()) else (loopT n (X:=Int) (B:=(Unit) ⊕ (Bool)) (fun self1 x0=> bif decide (x0<(a0.length:Int)) then bnd a0.length x0 fun n2=> a0[n2]?.bind fun y3=> bnd a1.length x0 fun n4=> a1[n4]?.bind fun y5=> (g_leqLedge (y3,y5)).bind fun r6=> bif !r6.1 then some (Sum.inr false) else self1 (IntKind.wrap .i64 (x0+1)) else some (Sum.inl ())) (0:Int)).bind fun y=>match y with | .inl x7=> some (true,()) | .inr x7=> some (x7,()):=by kernel_rfl
def c_leqWeb:TC:=
 (zS [zJB 2 1] (zQ (zS [zLd 5 2 0 5 7 3 0 7,zDB 9 6 8] (zC 9 (zS [zBo 4] .ret) .skip)) (zQ (zS [zIv 10 2 1 3 1,zIp 14 178 11 13] (zC 15 (zS [zBo 4] .ret) .skip)) (zS [zDh 4] .ret))))
def s_leqWeb:Sig:=⟨[.rd true Ct15,.rd true Ct15],(.one false [.d])⟩
def E_leqWeb:TEnv:=envOf [(178,p_leqLedgeS)]
def f_leqWeb (n:Nat):Zt12 × Zt12->Option ((Bool) × Unit):=runFn n E_leqWeb c_leqWeb [Ty15,Ty15] [.b] [] [4] .no
def g_leqWeb:=f_leqWeb BIG
def p_leqWeb:TSp:=⟨s_leqWeb,[Ty15,Ty15],[.b],[],Ou.j .no,g_leqWeb⟩
theorem k_leqWeb:zK E_leqWeb 134 s_leqWeb c_leqWeb 16 .no [4]:=by show _=_;kernel_rfl
theorem ok_leqWeb:p_leqWeb.Ok PG 134:=mkOk (env_cons ok_leqLedgeS (env_nil PG)) k_leqWeb (by kernel_rfl)
theorem e_leqWeb (n) (a0) (a1):f_leqWeb n (a0,a1) = bif !decide (a0.1=a1.1) then some (false,()) else (g_leqLedgeS (a0.2,a1.2)).bind fun r0=> bif !r0.1 then some (false,()) else some (true,()):=by kernel_rfl
def c_leqAnswer:TC:=
 (zS [zJB 2 1] (zQ (zS [zLd 5 2 0 5 7 3 0 7,zDB 9 6 8] (zC 9 (zS [zBo 4] .ret) .skip)) (zQ (zS [zIv 10 2 1 3 1,zIe 14 11 13] (zC 14 (zS [zBo 4] .ret) .skip)) (zQ (zS [zIv 15 2 2 3 2,zIp 19 80 16 18] (zC 20 (zS [zBo 4] .ret) .skip)) (zQ (zS [zIv 21 2 3 3 3,zIp 25 79 22 24] (zC 26 (zS [zBo 4] .ret) .skip)) (zS [zDh 4] .ret))))))
def s_leqAnswer:Sig:=⟨[.rd true Ct7,.rd true Ct7],(.one false [.d])⟩
def E_leqAnswer:TEnv:=envOf [(80,p_leqEdgeS),(79,p_leqIntS)]
def f_leqAnswer (n:Nat):Zt10 × Zt10->Option ((Bool) × Unit):=runFn n E_leqAnswer c_leqAnswer [Ty13,Ty13] [.b] [] [4] .no
def g_leqAnswer:=f_leqAnswer BIG
def p_leqAnswer:TSp:=⟨s_leqAnswer,[Ty13,Ty13],[.b],[],Ou.j .no,g_leqAnswer⟩
theorem k_leqAnswer:zK E_leqAnswer 135 s_leqAnswer c_leqAnswer 27 .no [4]:=by show _=_;kernel_rfl
theorem ok_leqAnswer:p_leqAnswer.Ok PG 135:=mkOk (env_cons ok_leqEdgeS (env_cons ok_leqIntS (env_nil PG))) k_leqAnswer (by kernel_rfl)
theorem e_leqAnswer (n) (a0) (a1):f_leqAnswer n (a0,a1) = bif !decide (a0.1=a1.1) then some (false,()) else bif !(a0.2.1 == a1.2.1) then some (false,()) else (g_leqEdgeS (a0.2.2.1,a1.2.2.1)).bind fun r0=> bif !r0.1 then some (false,()) else (g_leqIntS (a0.2.2.2,a1.2.2.2)).bind fun r1=> bif !r1.1 then some (false,()) else some (true,()):=by kernel_rfl
def c_leqShard:TC:=
 (zS [zJB 2 1] (zQ (zS [zLd 5 2 0 5 7 3 0 7,zDB 9 6 8] (zC 9 (zS [zBo 4] .ret) .skip)) (zQ (zS [zIu 10 2 1 2,zLc 12 3 1 2 134 11] (zC 15 (zS [zBo 4] .ret) .skip)) (zQ (zS [zIu 16 2 3 4,zLc 18 3 3 4 135 17] (zC 21 (zS [zBo 4] .ret) .skip)) (zS [zDh 4] .ret)))))
def s_leqShard:Sig:=⟨[.rd true Ct6,.rd true Ct6],(.one false [.d])⟩
def E_leqShard:TEnv:=envOf [(134,p_leqWeb),(135,p_leqAnswer)]
def f_leqShard (n:Nat):Zt8 × Zt8->Option ((Bool) × Unit):=runFn n E_leqShard c_leqShard [Ty7,Ty7] [.b] [] [4] .no
def g_leqShard:=f_leqShard BIG
def p_leqShard:TSp:=⟨s_leqShard,[Ty7,Ty7],[.b],[],Ou.j .no,g_leqShard⟩
theorem k_leqShard:zK E_leqShard 84 s_leqShard c_leqShard 22 .no [4]:=by show _=_;kernel_rfl
theorem ok_leqShard:p_leqShard.Ok PG 84:=mkOk (env_cons ok_leqWeb (env_cons ok_leqAnswer (env_nil PG))) k_leqShard (by kernel_rfl)
theorem e_leqShard (n) (a0) (a1):f_leqShard n (a0,a1) = bif !decide (a0.1=a1.1) then some (false,()) else (g_leqWeb ((a0.2.1,a0.2.2.1),(a1.2.1,a1.2.2.1))).bind fun r0=> bif !r0.1 then some (false,()) else (g_leqAnswer (a0.2.2.2,a1.2.2.2)).bind fun r1=> bif !r1.1 then some (false,()) else some (true,()):=by kernel_rfl
def c_leqShardS:TC:=
 (zS [zBo 4] (zQ (zS [zKj 6 0 6 8 1 8] (zC 10 (zS [zBo 4] .ret) .skip)) (zQ (.join [] 134215728 (some [⟨4,[.b],false⟩]) (zS [zAa 5] (.block 0 (.loop [⟨5,[.i .i64],false⟩] 134215728 (zQ (zS [zIr 11 5 0] (zC 14 .skip (.exit 0))) (zQ (.block 1 (zS [zKf 17 0 5 21 1 5 7 7 7 7,zIp 25 84 20 24] (zC 26 (zS [zBo 4] .ret) .skip))) (zR [zIo 15 5 5]))))))) (zS [zDh 4] .ret))))
def s_leqShardS:Sig:=⟨[.rd false Ct4,.rd false Ct4],(.one false [.d])⟩
def E_leqShardS:TEnv:=envOf [(84,p_leqShard)]
def f_leqShardS (n:Nat):(List Zt8) × (List Zt8)->Option ((Bool) × Unit):=runFn n E_leqShardS c_leqShardS [Ty6,Ty6] [.b] [] [4] .no
def g_leqShardS:=f_leqShardS BIG
def p_leqShardS:TSp:=⟨s_leqShardS,[Ty6,Ty6],[.b],[],Ou.j .no,g_leqShardS⟩
theorem k_leqShardS:zK E_leqShardS 35 s_leqShardS c_leqShardS 27 .no [4]:=by show _=_;kernel_rfl
theorem ok_leqShardS:p_leqShardS.Ok PG 35:=mkOk (env_cons ok_leqShard (env_nil PG)) k_leqShardS (by kernel_rfl)
theorem e_leqShardS (n) (a0) (a1):f_leqShardS n (a0,a1) = bif !decide ((a0.length:Int)=(a1.length:Int)) then some (false,()) else (loopT n (X:=Int) (B:=(Unit) ⊕ (Bool)) (fun self1 x0=> bif decide (x0<(a0.length:Int)) then bnd a0.length x0 fun n2=> a0[n2]?.bind fun y3=> bnd a1.length x0 fun n4=> a1[n4]?.bind fun y5=> (g_leqShard (y3,y5)).bind fun r6=> bif !r6.1 then some (Sum.inr false) else self1 (IntKind.wrap .i64 (x0+1)) else some (Sum.inl ())) (0:Int)).bind fun y=>match y with | .inl x7=> some (true,()) | .inr x7=> some (x7,()):=by kernel_rfl
def c_leqFile:TC:=
 (zS [zJB 2 1] (zQ (zS [zLd 5 2 0 5 7 3 0 7,zDB 9 6 8] (zC 9 (zS [zBo 4] .ret) .skip)) (zQ (zS [zKa 10 2 1 3 1 14 13] (zC 14 (zS [zBo 4] .ret) .skip)) (zQ (zS [zKa 15 2 2 3 2 19 18] (zC 19 (zS [zBo 4] .ret) .skip)) (zS [zDh 4] .ret)))))
def s_leqFile:Sig:=⟨[.rd true [.d,.d,.d],.rd true [.d,.d,.d]],(.one false [.d])⟩
def E_leqFile:TEnv:=envOf []
def f_leqFile (n:Nat):(ByteArray × ByteArray × Int) × (ByteArray × ByteArray × Int)->Option ((Bool) × Unit):=runFn n E_leqFile c_leqFile [[.s,.s,.i .i64],[.s,.s,.i .i64]] [.b] [] [4] .no
def g_leqFile:=f_leqFile BIG
def p_leqFile:TSp:=⟨s_leqFile,[[.s,.s,.i .i64],[.s,.s,.i .i64]],[.b],[],Ou.j .no,g_leqFile⟩
theorem k_leqFile:zK E_leqFile 179 s_leqFile c_leqFile 20 .no [4]:=by show _=_;kernel_rfl
theorem ok_leqFile:p_leqFile.Ok PG 179:=mkOk (env_nil PG) k_leqFile (by kernel_rfl)
theorem e_leqFile (n) (a0) (a1):f_leqFile n (a0,a1) = bif !(a0.1.toList == a1.1.toList) then some (false,()) else bif !(a0.2.1.toList == a1.2.1.toList) then some (false,()) else bif !decide (a0.2.2=a1.2.2) then some (false,()) else some (true,()):=by kernel_rfl
def c_leqFileS:TC:=
 (zS [zBo 4] (zQ (zS [zKj 6 0 6 8 1 8] (zC 10 (zS [zBo 4] .ret) .skip)) (zQ (.join [] 134215728 (some [⟨4,[.b],false⟩]) (zS [zAa 5] (.block 0 (.loop [⟨5,[.i .i64],false⟩] 134215728 (zQ (zS [zIr 11 5 0] (zC 14 .skip (.exit 0))) (zQ (.block 1 (zS [zKf 17 0 5 21 1 5 3 3 3 3,zIp 25 179 20 24] (zC 26 (zS [zBo 4] .ret) .skip))) (zR [zIo 15 5 5]))))))) (zS [zDh 4] .ret))))
def s_leqFileS:Sig:=⟨[.rd false Ct18,.rd false Ct18],(.one false [.d])⟩
def E_leqFileS:TEnv:=envOf [(179,p_leqFile)]
def f_leqFileS (n:Nat):(List (ByteArray × ByteArray × Int)) × (List (ByteArray × ByteArray × Int))->Option ((Bool) × Unit):=runFn n E_leqFileS c_leqFileS [[.sl [.s,.s,.i .i64]],[.sl [.s,.s,.i .i64]]] [.b] [] [4] .no
def g_leqFileS:=f_leqFileS BIG
def p_leqFileS:TSp:=⟨s_leqFileS,[[.sl [.s,.s,.i .i64]],[.sl [.s,.s,.i .i64]]],[.b],[],Ou.j .no,g_leqFileS⟩
theorem k_leqFileS:zK E_leqFileS 136 s_leqFileS c_leqFileS 27 .no [4]:=by show _=_;kernel_rfl
theorem ok_leqFileS:p_leqFileS.Ok PG 136:=mkOk (env_cons ok_leqFile (env_nil PG)) k_leqFileS (by kernel_rfl)
theorem e_leqFileS (n) (a0) (a1):f_leqFileS n (a0,a1) = bif !decide ((a0.length:Int)=(a1.length:Int)) then some (false,()) else (loopT n (X:=Int) (B:=(Unit) ⊕ (Bool)) (fun self1 x0=> bif decide (x0<(a0.length:Int)) then bnd a0.length x0 fun n2=> a0[n2]?.bind fun y3=> bnd a1.length x0 fun n4=> a1[n4]?.bind fun y5=> (g_leqFile (y3,y5)).bind fun r6=> bif !r6.1 then some (Sum.inr false) else self1 (IntKind.wrap .i64 (x0+1)) else some (Sum.inl ())) (0:Int)).bind fun y=>match y with | .inl x7=> some (true,()) | .inr x7=> some (x7,()):=by kernel_rfl
def c_leqDisk:TC:=
 (zS [zJB 2 1] (zQ (zS [zLd 5 2 0 5 7 3 0 7,zAj 9 136 6 8,zBz 10 9] (zC 10 (zS [zBo 4] .ret) .skip)) (zS [zDh 4] .ret)))
def s_leqDisk:Sig:=⟨[.rd true Ct18,.rd true Ct18],(.one false [.d])⟩
def E_leqDisk:TEnv:=envOf [(136,p_leqFileS)]
def f_leqDisk (n:Nat):(List (ByteArray × ByteArray × Int)) × (List (ByteArray × ByteArray × Int))->Option ((Bool) × Unit):=runFn n E_leqDisk c_leqDisk [[.sl [.s,.s,.i .i64]],[.sl [.s,.s,.i .i64]]] [.b] [] [4] .no
def g_leqDisk:=f_leqDisk BIG
def p_leqDisk:TSp:=⟨s_leqDisk,[[.sl [.s,.s,.i .i64]],[.sl [.s,.s,.i .i64]]],[.b],[],Ou.j .no,g_leqDisk⟩
theorem k_leqDisk:zK E_leqDisk 85 s_leqDisk c_leqDisk 11 .no [4]:=by show _=_;kernel_rfl
theorem ok_leqDisk:p_leqDisk.Ok PG 85:=mkOk (env_cons ok_leqFileS (env_nil PG)) k_leqDisk (by kernel_rfl)
theorem e_leqDisk (n) (a0) (a1):f_leqDisk n (a0,a1) = (g_leqFileS (a0,a1)).bind fun r0=> bif !r0.1 then some (false,()) else some (true,()):=by kernel_rfl
def c_leqDiskS:TC:=
 (zS [zBo 4] (zQ (zS [zKj 6 0 6 8 1 8] (zC 10 (zS [zBo 4] .ret) .skip)) (zQ (.join [] 134215728 (some [⟨4,[.b],false⟩]) (zS [zAa 5] (.block 0 (.loop [⟨5,[.i .i64],false⟩] 134215728 (zQ (zS [zIr 11 5 0] (zC 14 .skip (.exit 0))) (zQ (.block 1 (zS [zKf 17 0 5 21 1 5 1 1 1 1,zIp 25 85 20 24] (zC 26 (zS [zBo 4] .ret) .skip))) (zR [zIo 15 5 5]))))))) (zS [zDh 4] .ret))))
def s_leqDiskS:Sig:=⟨[.rd false Ct9,.rd false Ct9],(.one false [.d])⟩
def E_leqDiskS:TEnv:=envOf [(85,p_leqDisk)]
def f_leqDiskS (n:Nat):(List (List (ByteArray × ByteArray × Int))) × (List (List (ByteArray × ByteArray × Int)))->Option ((Bool) × Unit):=runFn n E_leqDiskS c_leqDiskS [Ty23,Ty23] [.b] [] [4] .no
def g_leqDiskS:=f_leqDiskS BIG
def p_leqDiskS:TSp:=⟨s_leqDiskS,[Ty23,Ty23],[.b],[],Ou.j .no,g_leqDiskS⟩
theorem k_leqDiskS:zK E_leqDiskS 36 s_leqDiskS c_leqDiskS 27 .no [4]:=by show _=_;kernel_rfl
theorem ok_leqDiskS:p_leqDiskS.Ok PG 36:=mkOk (env_cons ok_leqDisk (env_nil PG)) k_leqDiskS (by kernel_rfl)
theorem e_leqDiskS (n) (a0) (a1):f_leqDiskS n (a0,a1) = bif !decide ((a0.length:Int)=(a1.length:Int)) then some (false,()) else (loopT n (X:=Int) (B:=(Unit) ⊕ (Bool)) (fun self1 x0=> bif decide (x0<(a0.length:Int)) then bnd a0.length x0 fun n2=> a0[n2]?.bind fun y3=> bnd a1.length x0 fun n4=> a1[n4]?.bind fun y5=> (g_leqDisk (y3,y5)).bind fun r6=> bif !r6.1 then some (Sum.inr false) else self1 (IntKind.wrap .i64 (x0+1)) else some (Sum.inl ())) (0:Int)).bind fun y=>match y with | .inl x7=> some (true,()) | .inr x7=> some (x7,()):=by kernel_rfl
def c_leqBoolS:TC:=
 (zS [zBo 4] (zQ (zS [zKj 6 0 6 8 1 8] (zC 10 (zS [zBo 4] .ret) .skip)) (zQ (.join [] 67106864 (some [⟨4,[.b],false⟩]) (zS [zAa 5] (.block 0 (.loop [⟨5,[.i .i64],false⟩] 67106864 (zQ (zS [zIr 11 5 0] (zC 14 .skip (.exit 0))) (zQ (.block 1 (zS [zKf 17 0 5 21 1 5 1 1 1 1,zIe 25 20 24] (zC 25 (zS [zBo 4] .ret) .skip))) (zR [zIo 15 5 5]))))))) (zS [zDh 4] .ret))))
def s_leqBoolS:Sig:=⟨[.rd false Ct21,.rd false Ct21],(.one false [.d])⟩
def E_leqBoolS:TEnv:=envOf []
def f_leqBoolS (n:Nat):List (Bool) × List (Bool)->Option ((Bool) × Unit):=runFn n E_leqBoolS c_leqBoolS [[.sl [.b]],[.sl [.b]]] [.b] [] [4] .no
def g_leqBoolS:=f_leqBoolS BIG
def p_leqBoolS:TSp:=⟨s_leqBoolS,[[.sl [.b]],[.sl [.b]]],[.b],[],Ou.j .no,g_leqBoolS⟩
theorem k_leqBoolS:zK E_leqBoolS 37 s_leqBoolS c_leqBoolS 26 .no [4]:=by show _=_;kernel_rfl
theorem ok_leqBoolS:p_leqBoolS.Ok PG 37:=mkOk (env_nil PG) k_leqBoolS (by kernel_rfl)
theorem e_leqBoolS (n) (a0) (a1):f_leqBoolS n (a0,a1) = bif !decide ((a0.length:Int)=(a1.length:Int)) then some (false,()) else (loopT n (X:=Int) (B:=(Unit) ⊕ (Bool)) (fun self1 x0=> bif decide (x0<(a0.length:Int)) then bnd a0.length x0 fun n2=> a0[n2]?.bind fun y3=> bnd a1.length x0 fun n4=> a1[n4]?.bind fun y5=> bif !(y3 == y5) then some (Sum.inr false) else self1 (IntKind.wrap .i64 (x0+1)) else some (Sum.inl ())) (0:Int)).bind fun y=>match y with | .inl x6=> some (true,()) | .inr x6=> some (x6,()):=by kernel_rfl
def c_leqPacket:TC:=
 (zS [zJB 2 1] (zQ (zS [zLd 5 2 0 5 7 3 0 7,zDB 9 6 8] (zC 9 (zS [zBo 4] .ret) .skip)) (zQ (zS [zKa 10 2 1 3 1 14 13] (zC 14 (zS [zBo 4] .ret) .skip)) (zQ (zS [zKa 15 2 2 3 2 19 18] (zC 19 (zS [zBo 4] .ret) .skip)) (zS [zDh 4] .ret)))))
def s_leqPacket:Sig:=⟨[.rd true [.d,.d,.d],.rd true [.d,.d,.d]],(.one false [.d])⟩
def E_leqPacket:TEnv:=envOf []
def f_leqPacket (n:Nat):Zt18 × Zt18->Option ((Bool) × Unit):=runFn n E_leqPacket c_leqPacket [[.i .i64,.i .i64,.s],[.i .i64,.i .i64,.s]] [.b] [] [4] .no
def g_leqPacket:=f_leqPacket BIG
def p_leqPacket:TSp:=⟨s_leqPacket,[[.i .i64,.i .i64,.s],[.i .i64,.i .i64,.s]],[.b],[],Ou.j .no,g_leqPacket⟩
theorem k_leqPacket:zK E_leqPacket 86 s_leqPacket c_leqPacket 20 .no [4]:=by show _=_;kernel_rfl
theorem ok_leqPacket:p_leqPacket.Ok PG 86:=mkOk (env_nil PG) k_leqPacket (by kernel_rfl)
theorem e_leqPacket (n) (a0) (a1):f_leqPacket n (a0,a1) = bif !decide (a0.1=a1.1) then some (false,()) else bif !decide (a0.2.1=a1.2.1) then some (false,()) else bif !(a0.2.2.toList == a1.2.2.toList) then some (false,()) else some (true,()):=by kernel_rfl
def c_leqPacketS:TC:=
 (zS [zBo 4] (zQ (zS [zKj 6 0 6 8 1 8] (zC 10 (zS [zBo 4] .ret) .skip)) (zQ (.join [] 134215728 (some [⟨4,[.b],false⟩]) (zS [zAa 5] (.block 0 (.loop [⟨5,[.i .i64],false⟩] 134215728 (zQ (zS [zIr 11 5 0] (zC 14 .skip (.exit 0))) (zQ (.block 1 (zS [zKf 17 0 5 21 1 5 3 3 3 3,zIp 25 86 20 24] (zC 26 (zS [zBo 4] .ret) .skip))) (zR [zIo 15 5 5]))))))) (zS [zDh 4] .ret))))
def s_leqPacketS:Sig:=⟨[.rd false Ct18,.rd false Ct18],(.one false [.d])⟩
def E_leqPacketS:TEnv:=envOf [(86,p_leqPacket)]
def f_leqPacketS (n:Nat):(List Zt18) × (List Zt18)->Option ((Bool) × Unit):=runFn n E_leqPacketS c_leqPacketS [Ty24,Ty24] [.b] [] [4] .no
def g_leqPacketS:=f_leqPacketS BIG
def p_leqPacketS:TSp:=⟨s_leqPacketS,[Ty24,Ty24],[.b],[],Ou.j .no,g_leqPacketS⟩
theorem k_leqPacketS:zK E_leqPacketS 38 s_leqPacketS c_leqPacketS 27 .no [4]:=by show _=_;kernel_rfl
theorem ok_leqPacketS:p_leqPacketS.Ok PG 38:=mkOk (env_cons ok_leqPacket (env_nil PG)) k_leqPacketS (by kernel_rfl)
theorem e_leqPacketS (n) (a0) (a1):f_leqPacketS n (a0,a1) = bif !decide ((a0.length:Int)=(a1.length:Int)) then some (false,()) else (loopT n (X:=Int) (B:=(Unit) ⊕ (Bool)) (fun self1 x0=> bif decide (x0<(a0.length:Int)) then bnd a0.length x0 fun n2=> a0[n2]?.bind fun y3=> bnd a1.length x0 fun n4=> a1[n4]?.bind fun y5=> (g_leqPacket (y3,y5)).bind fun r6=> bif !r6.1 then some (Sum.inr false) else self1 (IntKind.wrap .i64 (x0+1)) else some (Sum.inl ())) (0:Int)).bind fun y=>match y with | .inl x7=> some (true,()) | .inr x7=> some (x7,()):=by kernel_rfl
def c_leqCall:TC:=
 (zS [zJB 2 1] (zQ (zS [zKg 5 2 0 5 4,zKg 7 3 0 7 4,zAj 9 131 6 8,zBz 10 9] (zC 10 (zS [zBo 4] .ret) .skip)) (zQ (zS [zKa 11 2 4 3 4 15 14] (zC 15 (zS [zBo 4] .ret) .skip)) (zQ (zS [zKa 16 2 5 3 5 20 19] (zC 20 (zS [zBo 4] .ret) .skip)) (zQ (zS [zKa 21 2 6 3 6 25 24] (zC 25 (zS [zBo 4] .ret) .skip)) (zS [zDh 4] .ret))))))
def s_leqCall:Sig:=⟨[.rd true Ct22,.rd true Ct22],(.one false [.d])⟩
def E_leqCall:TEnv:=envOf [(131,p_leqAsk)]
def f_leqCall (n:Nat):Zt11 × Zt11->Option ((Bool) × Unit):=runFn n E_leqCall c_leqCall [Ty10,Ty10] [.b] [] [4] .no
def g_leqCall:=f_leqCall BIG
def p_leqCall:TSp:=⟨s_leqCall,[Ty10,Ty10],[.b],[],Ou.j .no,g_leqCall⟩
theorem k_leqCall:zK E_leqCall 87 s_leqCall c_leqCall 26 .no [4]:=by show _=_;kernel_rfl
theorem ok_leqCall:p_leqCall.Ok PG 87:=mkOk (env_cons ok_leqAsk (env_nil PG)) k_leqCall (by kernel_rfl)
theorem e_leqCall (n) (a0) (a1):f_leqCall n (a0,a1) = (g_leqAsk ((a0.1,a0.2.1,a0.2.2.1,a0.2.2.2.1),(a1.1,a1.2.1,a1.2.2.1,a1.2.2.2.1))).bind fun r0=> bif !r0.1 then some (false,()) else bif !decide (a0.2.2.2.2.1=a1.2.2.2.2.1) then some (false,()) else bif !decide (a0.2.2.2.2.2.1=a1.2.2.2.2.2.1) then some (false,()) else bif !decide (a0.2.2.2.2.2.2=a1.2.2.2.2.2.2) then some (false,()) else some (true,()):=by kernel_rfl
def c_leqCallS:TC:=
 (zS [zBo 4] (zQ (zS [zKj 6 0 6 8 1 8] (zC 10 (zS [zBo 4] .ret) .skip)) (zQ (.join [] 134215728 (some [⟨4,[.b],false⟩]) (zS [zAa 5] (.block 0 (.loop [⟨5,[.i .i64],false⟩] 134215728 (zQ (zS [zIr 11 5 0] (zC 14 .skip (.exit 0))) (zQ (.block 1 (zS [zKf 17 0 5 21 1 5 7 7 7 7,zIp 25 87 20 24] (zC 26 (zS [zBo 4] .ret) .skip))) (zR [zIo 15 5 5]))))))) (zS [zDh 4] .ret))))
def s_leqCallS:Sig:=⟨[.rd false Ct12,.rd false Ct12],(.one false [.d])⟩
def E_leqCallS:TEnv:=envOf [(87,p_leqCall)]
def f_leqCallS (n:Nat):(List Zt11) × (List Zt11)->Option ((Bool) × Unit):=runFn n E_leqCallS c_leqCallS [Ty9,Ty9] [.b] [] [4] .no
def g_leqCallS:=f_leqCallS BIG
def p_leqCallS:TSp:=⟨s_leqCallS,[Ty9,Ty9],[.b],[],Ou.j .no,g_leqCallS⟩
theorem k_leqCallS:zK E_leqCallS 39 s_leqCallS c_leqCallS 27 .no [4]:=by show _=_;kernel_rfl
theorem ok_leqCallS:p_leqCallS.Ok PG 39:=mkOk (env_cons ok_leqCall (env_nil PG)) k_leqCallS (by kernel_rfl)
theorem e_leqCallS (n) (a0) (a1):f_leqCallS n (a0,a1) = bif !decide ((a0.length:Int)=(a1.length:Int)) then some (false,()) else (loopT n (X:=Int) (B:=(Unit) ⊕ (Bool)) (fun self1 x0=> bif decide (x0<(a0.length:Int)) then bnd a0.length x0 fun n2=> a0[n2]?.bind fun y3=> bnd a1.length x0 fun n4=> a1[n4]?.bind fun y5=> (g_leqCall (y3,y5)).bind fun r6=> bif !r6.1 then some (Sum.inr false) else self1 (IntKind.wrap .i64 (x0+1)) else some (Sum.inl ())) (0:Int)).bind fun y=>match y with | .inl x7=> some (true,()) | .inr x7=> some (x7,()):=by kernel_rfl
def c_leqRec:TC:=
 (zS [zJB 2 1] (zQ (zS [zLd 5 2 0 5 7 3 0 7,zDB 9 6 8] (zC 9 (zS [zBo 4] .ret) .skip)) (zQ (zS [zIu 10 2 1 4,zLc 12 3 1 4 131 11] (zC 15 (zS [zBo 4] .ret) .skip)) (zQ (zS [zKa 16 2 5 3 5 20 19] (zC 20 (zS [zBo 4] .ret) .skip)) (zQ (zS [zIu 21 2 6 4,zLc 23 3 6 4 135 22] (zC 26 (zS [zBo 4] .ret) .skip)) (zQ (zS [zIu 27 2 10 4,zLc 29 3 10 4 132 28] (zC 32 (zS [zBo 4] .ret) .skip)) (zS [zDh 4] .ret)))))))
def s_leqRec:Sig:=⟨[.rd true Ct5,.rd true Ct5],(.one false [.d])⟩
def E_leqRec:TEnv:=envOf [(131,p_leqAsk),(135,p_leqAnswer),(132,p_leqOrder)]
def f_leqRec (n:Nat):Zt6 × Zt6->Option ((Bool) × Unit):=runFn n E_leqRec c_leqRec [Ty5,Ty5] [.b] [] [4] .no
def g_leqRec:=f_leqRec BIG
def p_leqRec:TSp:=⟨s_leqRec,[Ty5,Ty5],[.b],[],Ou.j .no,g_leqRec⟩
theorem k_leqRec:zK E_leqRec 88 s_leqRec c_leqRec 33 .no [4]:=by show _=_;kernel_rfl
theorem ok_leqRec:p_leqRec.Ok PG 88:=mkOk (env_cons ok_leqAsk (env_cons ok_leqAnswer (env_cons ok_leqOrder (env_nil PG)))) k_leqRec (by kernel_rfl)
theorem e_leqRec (n) (a0) (a1):f_leqRec n (a0,a1) = bif !decide (a0.1=a1.1) then some (false,()) else (g_leqAsk ((a0.2.1,a0.2.2.1,a0.2.2.2.1,a0.2.2.2.2.1),(a1.2.1,a1.2.2.1,a1.2.2.2.1,a1.2.2.2.2.1))).bind fun r0=> bif !r0.1 then some (false,()) else bif !decide (a0.2.2.2.2.2.1=a1.2.2.2.2.2.1) then some (false,()) else (g_leqAnswer ((a0.2.2.2.2.2.2.1,a0.2.2.2.2.2.2.2.1,a0.2.2.2.2.2.2.2.2.1,a0.2.2.2.2.2.2.2.2.2.1),(a1.2.2.2.2.2.2.1,a1.2.2.2.2.2.2.2.1,a1.2.2.2.2.2.2.2.2.1,a1.2.2.2.2.2.2.2.2.2.1))).bind fun r1=> bif !r1.1 then some (false,()) else (g_leqOrder (a0.2.2.2.2.2.2.2.2.2.2,a1.2.2.2.2.2.2.2.2.2.2)).bind fun r2=> bif !r2.1 then some (false,()) else some (true,()):=by kernel_rfl
def c_leqRecS:TC:=
 (zS [zBo 4] (zQ (zS [zKj 6 0 6 8 1 8] (zC 10 (zS [zBo 4] .ret) .skip)) (zQ (.join [] 134215728 (some [⟨4,[.b],false⟩]) (zS [zAa 5] (.block 0 (.loop [⟨5,[.i .i64],false⟩] 134215728 (zQ (zS [zIr 11 5 0] (zC 14 .skip (.exit 0))) (zQ (.block 1 (zS [zIh 17 0 5,zIh 21 1 5,zIg 19 17 18 14 14,zIg 23 21 22 14 14,zIp 25 88 20 24] (zC 26 (zS [zBo 4] .ret) .skip))) (zR [zIo 15 5 5]))))))) (zS [zDh 4] .ret))))
def s_leqRecS:Sig:=⟨[.rd false Ct3,.rd false Ct3],(.one false [.d])⟩
def E_leqRecS:TEnv:=envOf [(88,p_leqRec)]
def f_leqRecS (n:Nat):(List Zt6) × (List Zt6)->Option ((Bool) × Unit):=runFn n E_leqRecS c_leqRecS [Ty4,Ty4] [.b] [] [4] .no
def g_leqRecS:=f_leqRecS BIG
def p_leqRecS:TSp:=⟨s_leqRecS,[Ty4,Ty4],[.b],[],Ou.j .no,g_leqRecS⟩
theorem k_leqRecS:zK E_leqRecS 40 s_leqRecS c_leqRecS 27 .no [4]:=by show _=_;kernel_rfl
theorem ok_leqRecS:p_leqRecS.Ok PG 40:=mkOk (env_cons ok_leqRec (env_nil PG)) k_leqRecS (by kernel_rfl)
theorem e_leqRecS (n) (a0) (a1):f_leqRecS n (a0,a1) = bif !decide ((a0.length:Int)=(a1.length:Int)) then some (false,()) else (loopT n (X:=Int) (B:=(Unit) ⊕ (Bool)) (fun self1 x0=> bif decide (x0<(a0.length:Int)) then bnd a0.length x0 fun n2=> a0[n2]?.bind fun y3=> bnd a1.length x0 fun n4=> a1[n4]?.bind fun y5=> (g_leqRec (y3,y5)).bind fun r6=> bif !r6.1 then some (Sum.inr false) else self1 (IntKind.wrap .i64 (x0+1)) else some (Sum.inl ())) (0:Int)).bind fun y=>match y with | .inl x7=> some (true,()) | .inr x7=> some (x7,()):=by kernel_rfl
def c_leqWorld:TC:=
 (zS [zJB 2 1] (zQ (zS [zLd 5 2 0 5 7 3 0 7,zDB 9 6 8] (zC 9 (zS [zBo 4] .ret) .skip)) (zQ (zS [zIu 10 2 1 15,zLc 12 3 1 15 34 11] (zC 15 (zS [zBo 4] .ret) .skip)) (zQ (zS [zAn 16,zAo 17 2 16 16,zIf 18 3 16,zIp 20 35 17 19] (zC 21 (zS [zBo 4] .ret) .skip)) (zQ (zS [zIf 22 2 17,zIf 24 3 17,zIp 26 36 23 25] (zC 27 (zS [zBo 4] .ret) .skip)) (zQ (zS [zIf 28 2 18,zIf 30 3 18,zIp 32 37 29 31] (zC 33 (zS [zBo 4] .ret) .skip)) (zQ (zS [zIf 34 2 19,zIf 36 3 19,zIp 38 38 35 37] (zC 39 (zS [zBo 4] .ret) .skip)) (zQ (zS [zIf 40 2 20,zIf 42 3 20,zIp 44 39 41 43] (zC 45 (zS [zBo 4] .ret) .skip)) (zQ (zS [zIf 46 2 21,zIf 48 3 21,zIp 50 40 47 49] (zC 51 (zS [zBo 4] .ret) .skip)) (zS [zDh 4] .ret))))))))))
def s_leqWorld:Sig:=⟨[.rd true Ct0,.rd true Ct0],(.one false [.d])⟩
def E_leqWorld:TEnv:=envOf [(34,p_leqHead),(35,p_leqShardS),(36,p_leqDiskS),(37,p_leqBoolS),(38,p_leqPacketS),(39,p_leqCallS),(40,p_leqRecS)]
def f_leqWorld (n:Nat):Zt0 × Zt0->Option ((Bool) × Unit):=runFn n E_leqWorld c_leqWorld [Ty0,Ty0] [.b] [] [4] .no
def g_leqWorld:=f_leqWorld BIG
def p_leqWorld:TSp:=⟨s_leqWorld,[Ty0,Ty0],[.b],[],Ou.j .no,g_leqWorld⟩
theorem k_leqWorld:zK E_leqWorld 8 s_leqWorld c_leqWorld 52 .no [4]:=by show _=_;kernel_rfl
theorem ok_leqWorld:p_leqWorld.Ok PG 8:=mkOk (env_cons ok_leqHead (env_cons ok_leqShardS (env_cons ok_leqDiskS (env_cons ok_leqBoolS (env_cons ok_leqPacketS (env_cons ok_leqCallS (env_cons ok_leqRecS (env_nil PG)))))))) k_leqWorld (by kernel_rfl)
theorem e_leqWorld (n) (a0) (a1):f_leqWorld n (a0,a1) = bif !decide (a0.1=a1.1) then some (false,()) else (g_leqHead ((a0.2.1,a0.2.2.1,a0.2.2.2.1,a0.2.2.2.2.1,a0.2.2.2.2.2.1,a0.2.2.2.2.2.2.1,a0.2.2.2.2.2.2.2.1,a0.2.2.2.2.2.2.2.2.1,a0.2.2.2.2.2.2.2.2.2.1,a0.2.2.2.2.2.2.2.2.2.2.1,a0.2.2.2.2.2.2.2.2.2.2.2.1,a0.2.2.2.2.2.2.2.2.2.2.2.2.1,a0.2.2.2.2.2.2.2.2.2.2.2.2.2.1,a0.2.2.2.2.2.2.2.2.2.2.2.2.2.2.1,a0.2.2.2.2.2.2.2.2.2.2.2.2.2.2.2.1),(a1.2.1,a1.2.2.1,a1.2.2.2.1,a1.2.2.2.2.1,a1.2.2.2.2.2.1,a1.2.2.2.2.2.2.1,a1.2.2.2.2.2.2.2.1,a1.2.2.2.2.2.2.2.2.1,a1.2.2.2.2.2.2.2.2.2.1,a1.2.2.2.2.2.2.2.2.2.2.1,a1.2.2.2.2.2.2.2.2.2.2.2.1,a1.2.2.2.2.2.2.2.2.2.2.2.2.1,a1.2.2.2.2.2.2.2.2.2.2.2.2.2.1,a1.2.2.2.2.2.2.2.2.2.2.2.2.2.2.1,a1.2.2.2.2.2.2.2.2.2.2.2.2.2.2.2.1))).bind fun r0=> bif !r0.1 then some (false,()) else (g_leqShardS (a0.2.2.2.2.2.2.2.2.2.2.2.2.2.2.2.2.1,a1.2.2.2.2.2.2.2.2.2.2.2.2.2.2.2.2.1)).bind fun r1=> bif !r1.1 then some (false,()) else (g_leqDiskS (a0.2.2.2.2.2.2.2.2.2.2.2.2.2.2.2.2.2.1,a1.2.2.2.2.2.2.2.2.2.2.2.2.2.2.2.2.2.1)).bind fun r2=> bif !r2.1 then some (false,()) else (g_leqBoolS (a0.2.2.2.2.2.2.2.2.2.2.2.2.2.2.2.2.2.2.1,a1.2.2.2.2.2.2.2.2.2.2.2.2.2.2.2.2.2.2.1)).bind fun r3=> bif !r3.1 then some (false,()) else (g_leqPacketS (a0.2.2.2.2.2.2.2.2.2.2.2.2.2.2.2.2.2.2.2.1,a1.2.2.2.2.2.2.2.2.2.2.2.2.2.2.2.2.2.2.2.1)).bind fun r4=> bif !r4.1 then some (false,()) else (g_leqCallS (a0.2.2.2.2.2.2.2.2.2.2.2.2.2.2.2.2.2.2.2.2.1,a1.2.2.2.2.2.2.2.2.2.2.2.2.2.2.2.2.2.2.2.2.1)).bind fun r5=> bif !r5.1 then some (false,()) else (g_leqRecS (a0.2.2.2.2.2.2.2.2.2.2.2.2.2.2.2.2.2.2.2.2.2,a1.2.2.2.2.2.2.2.2.2.2.2.2.2.2.2.2.2.2.2.2.2)).bind fun r6=> bif !r6.1 then some (false,()) else some (true,()):=by kernel_rfl
def c_lFnExactSound:TC:=
 (zS [zKh 1] (zS [zGg 3 1048576] (zS [zAx 7 1 22,zAb 8 3,zAj 9 4 7 8,zAb 3 9] (zQ (zS [zIz 10 3] (zC 11 (zS [zDh 2] .ret) .skip)) (zS [zJi 12 1 22 6,zAA 14 5 13,zAb 4 14] (zS [zJi 15 1 22 6,zBn 5 1000000006,zDa 5 16 5 16] (zS [zBa 17 5 22,zAA 18 7 17,zAb 6 18] (zQ (zS [zIh 19 6 4,zIe 21 19 20] (zC 21 (zS [zBo 2] .ret) .skip)) (zQ (zS [zBa 22 5 22,zJi 23 1 22 6,zIp 25 8 22 24] (zC 26 (zS [zBo 2] .ret) .skip)) (zS [zDh 2] .ret))))))))))
def s_lFnExactSound:Sig:=⟨[.rd true Ct0],(.one false [.d])⟩
def E_lFnExactSound:TEnv:=envOf [(4,p_lszWorld),(6,p_ltoWorld),(5,p_sSound),(7,p_iSound),(8,p_leqWorld)]
def f_lFnExactSound (n:Nat):Zt0->Option ((Bool) × Unit):=runFn n E_lFnExactSound c_lFnExactSound [Ty0] [.b] [] [2] .no
def g_lFnExactSound:=f_lFnExactSound BIG
def p_lFnExactSound:TSp:=⟨s_lFnExactSound,[Ty0],[.b],[],Ou.j .no,g_lFnExactSound⟩
theorem k_lFnExactSound:zK E_lFnExactSound 3 s_lFnExactSound c_lFnExactSound 27 .no [2]:=by show _=_;kernel_rfl
theorem ok_lFnExactSound:p_lFnExactSound.Ok PG 3:=mkOk (env_cons ok_lszWorld (env_cons ok_ltoWorld (env_cons ok_sSound (env_cons ok_iSound (env_cons ok_leqWorld (env_nil PG)))))) k_lFnExactSound (by kernel_rfl)
theorem e_lFnExactSound (n) (a0):f_lFnExactSound n a0 = (g_lszWorld (a0,(1048576:Int))).bind fun r0=> bif decide (r0.1<0) then some (true,()) else (g_ltoWorld a0).bind fun r1=> (g_sSound r1.1).bind fun r2=> (g_ltoWorld a0).bind fun r3=> (g_iSound r3.1).bind fun r4=> bif !(r4.1 == r2.1) then some (false,()) else (g_ltoWorld a0).bind fun r5=> (g_leqWorld (r3.1,r5.1)).bind fun r6=> bif !r6.1 then some (false,()) else some (true,()):=by kernel_rfl
end
end Go.Fw
