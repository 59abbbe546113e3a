/- The given functions, as what they compute; each is shown to be what the code does. No conditions. -/
import Derived.Test.YtlolhpdimikcdaaGreatX1
set_option linter.unusedVariables false
set_option linter.unusedSimpArgs false
set_option linter.unusedSectionVars false
namespace Go.Fw
noncomputable section
def c_sSound:TC:=
 (zS [zKh 1] (zS [zLe 6 1 22 16 6,zAs 7 5 7,zGo 5 15 8 5,zGp 9 5 15,zBe 3 1000000004,zDa 3 8 3 8,zAb 4 9] (zQ (.seq (.join [⟨36,[.b],false⟩] 137438952448 none (zR [zAb 10 4,zJk 11 10,zIq 13 2 1 18 2,zEv 15 14 2,zDr 16 2,zDs 17 1 16 16 2,zEv 18 17 2,zHw 19 18 2,zJx 20 15 19 2 12,zAb 22 21,zIw 23 12 1 18,[o2 25 (.index 24 (kD 0)) 12 false],zDE 26 24 25 12,zBA 27 26 12,zDm 28 17,zHt 29 3 14 28 17,zKp 30 17 1 15,zDy 17 29 32 33 33 17,zDz 34 33 17,zLa 27 34 35 35 12 22])) (zC 36 (zS [zBo 2] .ret) .skip)) (zS [zBa 37 3 15,zAn 38,zGd 1 1 1 38 37] (zQ (.join [⟨2,[.b],false⟩] 36028247263150084 none (zR [zIf 39 1 0,zJD 41 3 14,zAj 43 18 40 42,zKi 44 43 5 1 20 5,zDm 47 5,zHt 48 3 14 47 5,zDy 19 46 48 49 49 5,zIx 44 49 50,zEr 52 1 22 12,zHv 20 52 53 53 12,zJe 51 53 54 2])) .ret)))))
def s_sSound:Sig:=⟨[.rd true Ct0],(.one false [.d])⟩
def E_sSound:TEnv:=envOf [(16,p_sl15Head),(17,p_sl15SameSaid),(18,p_sFollows),(19,p_sInTime),(20,p_sl15Quiet)]
def f_sSound (n:Nat):Zt0->Option ((Bool) × Unit):=runFn n E_sSound c_sSound [Ty0] [.b] [] [2] .no
def g_sSound:=f_sSound BIG
def p_sSound:TSp:=⟨s_sSound,[Ty0],[.b],[],Ou.j .no,g_sSound⟩
theorem k_sSound:zK E_sSound 5 s_sSound c_sSound 55 .no [2]:=by show _=_;kernel_rfl
theorem ok_sSound:p_sSound.Ok PG 5:=mkOk (env_cons ok_sl15Head (env_cons ok_sl15SameSaid (env_cons ok_sFollows (env_cons ok_sInTime (env_cons ok_sl15Quiet (env_nil PG)))))) k_sSound (by kernel_rfl)
theorem e_sSound (n) (a0):f_sSound n a0 = (g_sl15Head a0).bind fun r0=> (bif !r0.1.2.2.2.2.2.2.2.2.2.2.2.2.2.2.2 then some true else bif !decide ((a0.2.2.2.2.2.2.2.2.2.2.2.2.2.2.2.2.2.2.1.length:Int)=(IntKind.wrap .i64 ((a0.2.2.2.2.2.2.2.2.2.2.2.2.2.2.2.2.1.length:Int)+1))) then some true else bnd a0.2.2.2.2.2.2.2.2.2.2.2.2.2.2.2.2.2.2.1.length (0:Int) fun n1=> a0.2.2.2.2.2.2.2.2.2.2.2.2.2.2.2.2.2.2.1[n1]?.bind fun y2=> bif y2 then (g_sl15SameSaid (r0.1.2.2.2.2.2.2.2.2.2.2.2.2.2.2.1,a0.2.2.2.2.2.2.2.2.2.2.2.2.2.2.2.1)).bind fun r3=> some !r3.1 else some false).bind fun x4=> bif x4 then some (false,()) else ((g_sFollows (a0.1,r0.1.2.2.2.2.2.2.2.2.2.2.2.2.2.2.1)).bind fun r5=> bif r5.1 then (g_sInTime (a0.2.2.2.2.2.2.2.2.2.2.2.2.2.2.2.2.2.2.2.2.1,r0.1.2.2.2.2.2.2.2.2.2.2.2.2.2.2.1)).bind fun r6=> bif r6.1 then (g_sl15Quiet (a0.1,r0.1.1,r0.1.2.1,r0.1.2.2.1,r0.1.2.2.2.1,r0.1.2.2.2.2.1,r0.1.2.2.2.2.2.1,r0.1.2.2.2.2.2.2.1,r0.1.2.2.2.2.2.2.2.1,r0.1.2.2.2.2.2.2.2.2.1,r0.1.2.2.2.2.2.2.2.2.2.1,r0.1.2.2.2.2.2.2.2.2.2.2.1,r0.1.2.2.2.2.2.2.2.2.2.2.2.1,r0.1.2.2.2.2.2.2.2.2.2.2.2.2.1,r0.1.2.2.2.2.2.2.2.2.2.2.2.2.2.1,r0.1.2.2.2.2.2.2.2.2.2.2.2.2.2.2.1,a0.2.2.2.2.2.2.2.2.2.2.2.2.2.2.2.2)).bind fun r7=> some r7.1 else some false else some false).bind fun x8=> some (x8,()):=by kernel_rfl
def c_iin:TC:=
 (zS [zBo 6] (zQ (.join [⟨6,[.b],false⟩] 32704 none (zR [zIh 7 0 1,zBp,zKy 10 9 0 3,zBq 12 2 3,zBr,zJe 10 13 14 6])) .ret))
def s_iin:Sig:=⟨[.rd false [.d],.rd false [.d],.rd false [.d]],(.one false [.d])⟩
def E_iin:TEnv:=envOf []
def f_iin (n:Nat):Int × Int × Int->Option ((Bool) × Unit):=runFn n E_iin c_iin [[.i .i64],[.i .i64],[.i .i64]] [.b] [] [6] .no
def g_iin:=f_iin BIG
def p_iin:TSp:=⟨s_iin,[[.i .i64],[.i .i64],[.i .i64]],[.b],[],Ou.j .no,g_iin⟩
theorem k_iin:zK E_iin 113 s_iin c_iin 15 .no [6]:=by show _=_;kernel_rfl
theorem ok_iin:p_iin.Ok PG 113:=mkOk (env_nil PG) k_iin (by kernel_rfl)
theorem e_iin (n) (a0) (a1) (a2):f_iin n (a0,a1,a2) = (bif decide (a1<=a0) then some (decide (a0<=a2)) else some false).bind fun x0=> some (x0,()):=by kernel_rfl
def c_ifirst:TC:=
 (zS [zAr 2] (zS [zAr 3] (zQ (.join [⟨3,[.sl [.i .i64]],false⟩] 16376 none (zS [zAb 5 0,zAa 6] (.block 0 (.loop [⟨3,[.sl [.i .i64]],false⟩,⟨6,[.i .i64],false⟩] 16344 (zS [zAg 7 6 5] (zQ (zC 7 .skip (.exit 0)) (zQ (.block 1 (zS [zAb 8 6,zAb 4 8] (zR [zAs 3 9 3,zAb 10 4,zBu 11 10,zJw 9 11 12 9 3]))) (zR [zAk 13 6,zAb 6 13])))))))) (zS [zJb 3 14 3 2] .ret))))
def s_ifirst:Sig:=⟨[.rd false [.d]],(.one false Ct21)⟩
def E_ifirst:TEnv:=envOf []
def f_ifirst (n:Nat):Int->Option ((List Int) × Unit):=runFn n E_ifirst c_ifirst [[.i .i64]] [.sl [.i .i64]] [] [2] .no
def g_ifirst:=f_ifirst BIG
def p_ifirst:TSp:=⟨s_ifirst,[[.i .i64]],[.sl [.i .i64]],[],Ou.j .no,g_ifirst⟩
theorem k_ifirst:zK E_ifirst 114 s_ifirst c_ifirst 15 .no [2]:=by show _=_;kernel_rfl
theorem ok_ifirst:p_ifirst.Ok PG 114:=mkOk (env_nil PG) k_ifirst (by kernel_rfl)
theorem e_ifirst (n) (a0):f_ifirst n a0 = (loopT n (X:=(List Int) × Int) (B:=(List Int)) (fun self1 x0=> bif decide (x0.2<a0) then bif decide (x0.1.length+[x0.2].length<=4294967296) then self1 (x0.1++[x0.2],IntKind.wrap .i64 (x0.2+1)) else none else some x0.1) ([],(0:Int))).bind fun x2=> some (x2,()):=by kernel_rfl
def c_iHeadNew:TC:=
 (zS [zBe 4 1000000005,zBo 5] (zQ (.seq (.join [⟨15,[.b],false⟩] 65280 none (zR [zAb 8 0,zBy 9 113 8 12,zJk 10 9,zBA 12 1 3,zBB 113 12 3 13 13 3,zIt 14 13 3 11])) (zC 15 (zS [zBE 16,zDa 4 16 4 16,zBo 5] .ret) .skip)) (zS [zAb 17 0,[o1 18 (.build Ty3 [(0,.t 17)])],zBe 6 1000000007,zDa 6 18 6 18] (zQ (.join [⟨6,Ty3,false⟩] 8589410496 none (zS [zAb 19 0,zAa 20] (.block 0 (.loop [⟨6,Ty3,false⟩,⟨20,[.i .i64],false⟩] 8588886208 (zS [zAg 21 20 19] (zQ (zC 21 .skip (.exit 0)) (zQ (.block 1 (zS [zJc 22 20 7] (zR [zIh 25 7 1,zJD 23 6 1,[o1 27 (.data (.bin .rem) [.t 25,.t 26]),o1 28 (.data (.bin .add) [kD 1,.t 27])],zBu 29 28,zDc 24 24 29 30 24 24 6 30,zAn 31,zDd 6 30 24 6 1 31 30]))) (zR [zIB 32 20])))))))) (zQ (.join [⟨6,Ty3,false⟩] 562941363486784 none (zS [zAb 33 1,zAa 34] (.block 2 (.loop [⟨6,Ty3,false⟩,⟨34,[.i .i64],false⟩] 562932773552192 (zS [zAg 35 34 33] (zQ (zC 35 .skip (.exit 2)) (zQ (.block 3 (zS [zAb 38 0,zJD 36 6 3,zAA 39 114 38,zDf 39 40 39,zDg 37 37 40 41 37 40 37 6 41,zAn 42,zDd 6 41 37 6 3 42 41] (zR [zJD 43 6 4,[o5 (.sli [.i .i64] [kO 0]) 45 1000000001],zDc 44 44 45 46 44 44 6 46,zAn 47,zDd 6 46 44 6 4 47 46]))) (zR [zIB 48 34])))))))) (zS [zIm 49 6 15 4 4 6,zDh 5] .ret))))))
def s_iHeadNew:Sig:=⟨[.rd false [.d],.rd false [.d]],(.tup [(true,15),(false,1)] Ct1)⟩
def E_iHeadNew:TEnv:=envOf [(113,p_iin),(114,p_ifirst)]
def f_iHeadNew (n:Nat):Int × Int->Option (Zt2 × Unit):=runFn n E_iHeadNew c_iHeadNew [[.i .i64],[.i .i64]] Ty2 [] [4,5] .no
def g_iHeadNew:=f_iHeadNew BIG
def p_iHeadNew:TSp:=⟨s_iHeadNew,[[.i .i64],[.i .i64]],Ty2,[],Ou.j .no,g_iHeadNew⟩
theorem k_iHeadNew:zK E_iHeadNew 65 s_iHeadNew c_iHeadNew 50 .no [4,5]:=by show _=_;kernel_rfl
theorem ok_iHeadNew:p_iHeadNew.Ok PG 65:=mkOk (env_cons ok_iin (env_cons ok_ifirst (env_nil PG))) k_iHeadNew (by kernel_rfl)
theorem e_iHeadNew (n) (a0) (a1):f_iHeadNew n (a0,a1) = ((g_iin (a0,(1:Int),(12:Int))).bind fun r0=> bif !r0.1 then some true else (g_iin (a1,(1:Int),(3:Int))).bind fun r1=> some !r1.1).bind fun x2=> bif x2 then some (((0:Int),[],[],[],[],(0:Int),(0:Int),(0:Int),(0:Int),(0:Int),(0:Int),(0:Int),[],(0:Int),[],false),()) else (loopT n (X:=Zt4 × Int) (B:=Zt4) (fun self4 x3=> bif decide (x3.2<a0) then bif decide (a1=0) then none else bif decide (x3.1.2.1.length+([IntKind.wrap .i64 ((1:Int)+(Int.tmod x3.2 a1))]).length<=4294967296) then self4 ((x3.1.1,x3.1.2.1++([IntKind.wrap .i64 ((1:Int)+(Int.tmod x3.2 a1))]),x3.1.2.2),IntKind.wrap .i64 (x3.2+1)) else none else some x3.1) ((a0,[],[],[],[],(0:Int),(0:Int),(0:Int),(0:Int),(0:Int),(0:Int),(0:Int),[],(0:Int),[]),(0:Int))).bind fun x5=> (loopT n (X:=Zt4 × Int) (B:=Zt4) (fun self7 x6=> bif decide (x6.2<a1) then (g_ifirst a0).bind fun r8=> bif decide (x6.1.2.2.2.1.length+[r8.1].length<=4294967296) then bif decide (x6.1.2.2.2.2.1.length+([(0:Int)]).length<=4294967296) then self7 ((x6.1.1,x6.1.2.1,x6.1.2.2.1,x6.1.2.2.2.1++[r8.1],x6.1.2.2.2.2.1++([(0:Int)]),x6.1.2.2.2.2.2),IntKind.wrap .i64 (x6.2+1)) else none else none else some x6.1) (x5,(0:Int))).bind fun x9=> some ((x9.1,x9.2.1,x9.2.2.1,x9.2.2.2.1,x9.2.2.2.2.1,x9.2.2.2.2.2.1,x9.2.2.2.2.2.2.1,x9.2.2.2.2.2.2.2.1,x9.2.2.2.2.2.2.2.2.1,x9.2.2.2.2.2.2.2.2.2.1,x9.2.2.2.2.2.2.2.2.2.2.1,x9.2.2.2.2.2.2.2.2.2.2.2.1,x9.2.2.2.2.2.2.2.2.2.2.2.2.1,x9.2.2.2.2.2.2.2.2.2.2.2.2.2.1,x9.2.2.2.2.2.2.2.2.2.2.2.2.2.2,true),()):=by kernel_rfl
def c_icopyInts:TC:=
 (zS [zAr 2] (zS [zAb 3 0,zHx 4 3,zAs 4 2 4] .ret))
def s_icopyInts:Sig:=⟨[.rd false Ct21],(.one false Ct21)⟩
def E_icopyInts:TEnv:=envOf []
def f_icopyInts (n:Nat):List (Int)->Option ((List Int) × Unit):=runFn n E_icopyInts c_icopyInts [[.sl [.i .i64]]] [.sl [.i .i64]] [] [2] .no
def g_icopyInts:=f_icopyInts BIG
def p_icopyInts:TSp:=⟨s_icopyInts,[[.sl [.i .i64]]],[.sl [.i .i64]],[],Ou.j .no,g_icopyInts⟩
theorem k_icopyInts:zK E_icopyInts 119 s_icopyInts c_icopyInts 5 .no [2]:=by show _=_;kernel_rfl
theorem ok_icopyInts:p_icopyInts.Ok PG 119:=mkOk (env_nil PG) k_icopyInts (by kernel_rfl)
theorem e_icopyInts (n) (a0):f_icopyInts n a0 = bif decide (a0.length<=4294967296) then some (a0,()) else none:=by kernel_rfl
def c_icopyEdges:TC:=
 (zS [zAz 2] (zS [zAb 3 0,zHx 4 3,zAs 4 2 4] .ret))
def s_icopyEdges:Sig:=⟨[.rd false Ct20],(.one false Ct20)⟩
def E_icopyEdges:TEnv:=envOf []
def f_icopyEdges (n:Nat):(List Zt20)->Option ((List Zt20) × Unit):=runFn n E_icopyEdges c_icopyEdges [[.sl [.i .i64,.i .i64]]] [.sl [.i .i64,.i .i64]] [] [2] .no
def g_icopyEdges:=f_icopyEdges BIG
def p_icopyEdges:TSp:=⟨s_icopyEdges,[[.sl [.i .i64,.i .i64]]],[.sl [.i .i64,.i .i64]],[],Ou.j .no,g_icopyEdges⟩
theorem k_icopyEdges:zK E_icopyEdges 161 s_icopyEdges c_icopyEdges 5 .no [2]:=by show _=_;kernel_rfl
theorem ok_icopyEdges:p_icopyEdges.Ok PG 161:=mkOk (env_nil PG) k_icopyEdges (by kernel_rfl)
theorem e_icopyEdges (n) (a0):f_icopyEdges n a0 = bif decide (a0.length<=4294967296) then some (a0,()) else none:=by kernel_rfl
def c_icopyTask:TC:=
 (zS [zAm 1,zBc 2 1000000003] (zS [zAn 3,zBw 4 3,zAo 5 1 7 4,zJn 6 161 5,zBw 8 7,zDi 1 6 1 7 8 6] (zS [zBa 9 1 9,zBb 9 2 9 2 9 9 1] .ret)))
def s_icopyTask:Sig:=⟨[.rd true Ct8],(.one true Ct8)⟩
def E_icopyTask:TEnv:=envOf [(161,p_icopyEdges)]
def f_icopyTask (n:Nat):Zt9->Option (Zt9 × Unit):=runFn n E_icopyTask c_icopyTask [Ty8] Ty8 [] [2] .no
def g_icopyTask:=f_icopyTask BIG
def p_icopyTask:TSp:=⟨s_icopyTask,[Ty8],Ty8,[],Ou.j .no,g_icopyTask⟩
theorem k_icopyTask:zK E_icopyTask 162 s_icopyTask c_icopyTask 10 .no [2]:=by show _=_;kernel_rfl
theorem ok_icopyTask:p_icopyTask.Ok PG 162:=mkOk (env_cons ok_icopyEdges (env_nil PG)) k_icopyTask (by kernel_rfl)
theorem e_icopyTask (n) (a0):f_icopyTask n a0 = (g_icopyEdges a0.2.2.2.2.2.2.2.1).bind fun r0=> some ((a0.1,a0.2.1,a0.2.2.1,a0.2.2.2.1,a0.2.2.2.2.1,a0.2.2.2.2.2.1,a0.2.2.2.2.2.2.1,r0.1,a0.2.2.2.2.2.2.2.2),()):=by kernel_rfl
def c_icopyHead:TC:=
 (zS [zAm 1,zBe 2 1000000003] (zS [zGs 1000000004 6 6,zGt 1000000004 1 0 6 7 7,zGs 1000000004 8 8,zGt 1000000004 1 1 8 9 9,zHi 1000000004 119 9 10 10,zID 1000000004 11 11 1 2,zHi 1000000004 161 12 13 13,zID 1000000004 14 14 1 4,zHi 1000000004 119 15 16 16,zGs 1000000004 17 17,[⟨false,[],[1000000004],.det 1 (.load 1 [] 5 (.t 17) 9 false),[18],(some 18),none⟩],zHi 1000000004 162 18 19 19,zID 1000000004 20 20 1 14,[⟨false,[],[1000000004],.det 1 (.app none 21),[22],(some 22),none⟩,⟨false,[],[1000000004],.det 6 (.build Ty3 [(0,.t 7),(1,.t 10),(2,.t 13),(4,.t 16),(5,.t 19),(14,.t 22)]),[23,10,13,16,19,22],(some 23),none⟩],zBe 3 1000000004,zDa 3 23 3 23] (zQ (.join [⟨3,Ty3,false⟩] 549739036712 none (zS [zJq 24 1 3,zAa 27] (.block 0 (.loop [⟨3,Ty3,false⟩,⟨27,[.i .i64],false⟩] 549621596200 (zS [zAg 28 27 26] (zQ (zC 28 .skip (.exit 0)) (zQ (.block 1 (zS [zIg 29 25 27 1 1,zAb 5 30] (zR [zAb 33 5,zJD 31 3 3,zAA 34 119 33,zDf 34 35 34,zDg 32 32 35 36 32 35 32 3 36,zAn 37,zDd 3 36 32 3 3 37 36]))) (zR [zIB 38 27])))))))) (zS [zIm 39 3 15 2 2 3] .ret))))
def s_icopyHead:Sig:=⟨[.rd true Ct2],(.one true Ct2)⟩
def E_icopyHead:TEnv:=envOf [(119,p_icopyInts),(161,p_icopyEdges),(162,p_icopyTask)]
def f_icopyHead (n:Nat):Zt4->Option (Zt4 × Unit):=runFn n E_icopyHead c_icopyHead [Ty3] Ty3 [] [2] .no
def g_icopyHead:=f_icopyHead BIG
def p_icopyHead:TSp:=⟨s_icopyHead,[Ty3],Ty3,[],Ou.j .no,g_icopyHead⟩
theorem k_icopyHead:zK E_icopyHead 115 s_icopyHead c_icopyHead 40 .no [2]:=by show _=_;kernel_rfl
theorem ok_icopyHead:p_icopyHead.Ok PG 115:=mkOk (env_cons ok_icopyInts (env_cons ok_icopyEdges (env_cons ok_icopyTask (env_nil PG)))) k_icopyHead (by kernel_rfl)
theorem e_icopyHead (n) (a0):f_icopyHead n a0 = (g_icopyInts a0.2.1).bind fun r0=> (g_icopyEdges a0.2.2.1).bind fun r1=> (g_icopyInts a0.2.2.2.2.1).bind fun r2=> (g_icopyTask (a0.2.2.2.2.2.1,a0.2.2.2.2.2.2.1,a0.2.2.2.2.2.2.2.1,a0.2.2.2.2.2.2.2.2.1,a0.2.2.2.2.2.2.2.2.2.1,a0.2.2.2.2.2.2.2.2.2.2.1,a0.2.2.2.2.2.2.2.2.2.2.2.1,a0.2.2.2.2.2.2.2.2.2.2.2.2.1,a0.2.2.2.2.2.2.2.2.2.2.2.2.2.1)).bind fun r3=> bif decide (a0.2.2.2.2.2.2.2.2.2.2.2.2.2.2.length<=4294967296) then (loopT n (X:=Zt4 × Int) (B:=Zt4) (fun self5 x4=> bif decide (x4.2<(a0.2.2.2.1.length:Int)) then bnd a0.2.2.2.1.length x4.2 fun n6=> a0.2.2.2.1[n6]?.bind fun y7=> (g_icopyInts y7).bind fun r8=> bif decide (x4.1.2.2.2.1.length+[r8.1].length<=4294967296) then self5 ((x4.1.1,x4.1.2.1,x4.1.2.2.1,x4.1.2.2.2.1++[r8.1],x4.1.2.2.2.2),IntKind.wrap .i64 (x4.2+1)) else none else some x4.1) ((a0.1,r0.1,r1.1,[],r2.1,r3.1.1,r3.1.2.1,r3.1.2.2.1,r3.1.2.2.2.1,r3.1.2.2.2.2.1,r3.1.2.2.2.2.2.1,r3.1.2.2.2.2.2.2.1,r3.1.2.2.2.2.2.2.2.1,r3.1.2.2.2.2.2.2.2.2,a0.2.2.2.2.2.2.2.2.2.2.2.2.2.2),(0:Int))).bind fun x9=> some (x9,()) else none:=by kernel_rfl
def c_ilabelsOk:TC:=
 (zS [zBo 4] (zQ (zS [zIy 7 1 7,zAb 9 0,zDB 10 8 9] (zC 10 (zS [zBo 4] .ret) .skip)) (zQ (.join [] 2147481712 (some [⟨4,[.b],false⟩]) (zS [zKm 11 1] (.block 0 (.loop [⟨13,[.i .i64],false⟩] 2147475568 (zS [zAg 14 13 12] (zQ (zC 14 .skip (.exit 0)) (zQ (.join [] 1073709168 (some [⟨4,[.b],false⟩]) (.block 1 (zS [zAb 15 13,zIg 16 11 13 1 1,zAb 5 15,zAb 6 17] (zQ (.join [⟨29,[.b],false⟩] 1073479680 none (zR [zIh 18 6 5,zDC 20 113 18 19,zJk 21 20,zBA 23 1 4,zLi 24 6 4 23 4,zDE 26 23 25 4,zBA 27 6 4,zJx 28 26 27 4 22])) (zC 29 (zS [zBo 4] .ret) .skip))))) (zR [zIB 30 13])))))))) (zS [zDh 4] .ret))))
def s_ilabelsOk:Sig:=⟨[.rd false [.d],.rd false Ct21],(.one false [.d])⟩
def E_ilabelsOk:TEnv:=envOf [(113,p_iin)]
def f_ilabelsOk (n:Nat):Int × List (Int)->Option ((Bool) × Unit):=runFn n E_ilabelsOk c_ilabelsOk [[.i .i64],[.sl [.i .i64]]] [.b] [] [4] .no
def g_ilabelsOk:=f_ilabelsOk BIG
def p_ilabelsOk:TSp:=⟨s_ilabelsOk,[[.i .i64],[.sl [.i .i64]]],[.b],[],Ou.j .no,g_ilabelsOk⟩
theorem k_ilabelsOk:zK E_ilabelsOk 163 s_ilabelsOk c_ilabelsOk 31 .no [4]:=by show _=_;kernel_rfl
theorem ok_ilabelsOk:p_ilabelsOk.Ok PG 163:=mkOk (env_cons ok_iin (env_nil PG)) k_ilabelsOk (by kernel_rfl)
theorem e_ilabelsOk (n) (a0) (a1):f_ilabelsOk n (a0,a1) =
 bif !decide ((a1.length:Int)=a0) then
  some (false,())
 else (loopT n (X:=Int) (B:=(Unit) ⊕ (Bool)) (fun self1 x0=>
  bif decide (x0<(a1.length:Int)) then
   (bnd a1.length x0 fun n2=>
    a1[n2]?.bind fun y3=>
    ((g_iin (y3,(0:Int),x0)).bind fun r4=>
     bif !r4.1 then
      some true
     else bnd a1.length y3 fun n5=>
     a1[n5]?.bind fun y6=>
     some (!decide (y6=y3))).bind fun x7=>
    bif x7 then
     some (Sum.inr false)
    else some (Sum.inl ())).bind fun y=>match y with
   | .inl x8=>
    self1 (IntKind.wrap .i64 (x0+1))
   | .inr x8=>
    some (Sum.inr x8)
  else some (Sum.inl ())) (0:Int)).bind fun y=>match y with
 | .inl x9=>
  some (true,())
 | .inr x9=>
  some (x9,()):=by kernel_rfl
def c_iEdgeOk:TC:=
 (zS [zJp 3 1] (zQ (.join [⟨4,[.b],false⟩] 268435440 none (zR [zAb 5 0,zBy 6 113 5 12,zAb 7 6,zDm 8 2,zDn 9 3 0 8 2,zBq 10 0 2,zKn 11 10 2 113 9 2,zIx 7 12 13,zIA 15 9 3 1 9,zBq 17 0 9,zKn 18 17 9 113 16 9,zIx 14 19 20,zKE 22 16 3 0 3 1,zDq 26 23 25 16,zJe 21 26 27 4])) .ret))
def s_iEdgeOk:Sig:=⟨[.rd false [.d],.rd true [.d,.d]],(.one false [.d])⟩
def E_iEdgeOk:TEnv:=envOf [(113,p_iin)]
def f_iEdgeOk (n:Nat):Int × Zt20->Option ((Bool) × Unit):=runFn n E_iEdgeOk c_iEdgeOk [[.i .i64],[.i .i64,.i .i64]] [.b] [] [4] .no
def g_iEdgeOk:=f_iEdgeOk BIG
def p_iEdgeOk:TSp:=⟨s_iEdgeOk,[[.i .i64],[.i .i64,.i .i64]],[.b],[],Ou.j .no,g_iEdgeOk⟩
theorem k_iEdgeOk:zK E_iEdgeOk 128 s_iEdgeOk c_iEdgeOk 28 .no [4]:=by show _=_;kernel_rfl
theorem ok_iEdgeOk:p_iEdgeOk.Ok PG 128:=mkOk (env_cons ok_iin (env_nil PG)) k_iEdgeOk (by kernel_rfl)
theorem e_iEdgeOk (n) (a0) (a1):f_iEdgeOk n (a0,a1) = ((g_iin (a0,(1:Int),(12:Int))).bind fun r0=> bif r0.1 then (g_iin (a1.1,(0:Int),IntKind.wrap .i64 (a0-1))).bind fun r1=> bif r1.1 then (g_iin (a1.2,(0:Int),IntKind.wrap .i64 (a0-1))).bind fun r2=> bif r2.1 then some (decide (a1.1<a1.2)) else some false else some false else some false).bind fun x3=> some (x3,()):=by kernel_rfl
def c_iahead:TC:=
 (zS [zJB 2 1] (zQ (.join [⟨4,[.b],false⟩] 16777200 none (zR [zLd 5 2 0 5 7 3 0 7,zAg 9 6 8,zKz 10 9 5 2 0 5,zIq 13 5 3 0 5,zDt 15 12 14 5,zBA 16 15 5,zKE 17 11 2 1 3 1,zDq 21 18 20 11,zLa 16 21 22 22 5 10,zAb 4 23])) .ret))
def s_iahead:Sig:=⟨[.rd true [.d,.d],.rd true [.d,.d]],(.one false [.d])⟩
def E_iahead:TEnv:=envOf []
def f_iahead (n:Nat):Zt20 × Zt20->Option ((Bool) × Unit):=runFn n E_iahead c_iahead [[.i .i64,.i .i64],[.i .i64,.i .i64]] [.b] [] [4] .no
def g_iahead:=f_iahead BIG
def p_iahead:TSp:=⟨s_iahead,[[.i .i64,.i .i64],[.i .i64,.i .i64]],[.b],[],Ou.j .no,g_iahead⟩
theorem k_iahead:zK E_iahead 177 s_iahead c_iahead 24 .no [4]:=by show _=_;kernel_rfl
theorem ok_iahead:p_iahead.Ok PG 177:=mkOk (env_nil PG) k_iahead (by kernel_rfl)
theorem e_iahead (n) (a0) (a1):f_iahead n (a0,a1) = (bif decide (a0.1<a1.1) then some true else bif decide (a0.1=a1.1) then some (decide (a0.2<a1.2)) else some false).bind fun x0=> some (x0,()):=by kernel_rfl
def c_iedgesOk:TC:=
 (zS [zBo 4] (zQ (.join [] 8589934576 (some [⟨4,[.b],false⟩]) (zS [zIy 7 1 7,zAa 9] (.block 0 (.loop [⟨9,[.i .i64],false⟩] 8589934192 (zS [zAg 10 9 8] (zQ (zC 10 .skip (.exit 0)) (zQ (.join [] 4294965360 (some [⟨4,[.b],false⟩]) (.block 1 (zS [zAb 11 9,zJh 12 7 9 7 2 2,zAv 6 1000000007,zAb 5 11,zAy 6 6 13] (zQ (.join [⟨31,[.b],false⟩] 4294950912 none (zR [zAb 14 0,zAx 15 6 2,zIp 16 128 14 15,zAb 18 17,zBA 19 5 4,zDv 20 19 0 4,zBA 21 20 4,zBq 22 1 7,zBq 23 5 7,zDo 24 23 7,zDw 25 22 24 7,zDx 26 22 2 25 2 7,zEr 27 6 2 7,zDy 177 26 27 28 28 7,zDz 29 28 7,zLa 21 29 30 30 4 18])) (zC 31 (zS [zBo 4] .ret) .skip))))) (zR [zAk 32 9,zAb 9 32])))))))) (zS [zJm 33 1,zDA 35 34 66,zAb 4 35] .ret)))
def s_iedgesOk:Sig:=⟨[.rd false [.d],.rd false Ct20],(.one false [.d])⟩
def E_iedgesOk:TEnv:=envOf [(128,p_iEdgeOk),(177,p_iahead)]
def f_iedgesOk (n:Nat):Int × (List Zt20)->Option ((Bool) × Unit):=runFn n E_iedgesOk c_iedgesOk [[.i .i64],[.sl [.i .i64,.i .i64]]] [.b] [] [4] .no
def g_iedgesOk:=f_iedgesOk BIG
def p_iedgesOk:TSp:=⟨s_iedgesOk,[[.i .i64],[.sl [.i .i64,.i .i64]]],[.b],[],Ou.j .no,g_iedgesOk⟩
theorem k_iedgesOk:zK E_iedgesOk 170 s_iedgesOk c_iedgesOk 36 .no [4]:=by show _=_;kernel_rfl
theorem ok_iedgesOk:p_iedgesOk.Ok PG 170:=mkOk (env_cons ok_iEdgeOk (env_cons ok_iahead (env_nil PG))) k_iedgesOk (by kernel_rfl)
theorem e_iedgesOk (n) (a0) (a1):f_iedgesOk n (a0,a1) =
 (loopT n (X:=Int) (B:=(Unit) ⊕ (Bool)) (fun self1 x0=>
  bif decide (x0<(a1.length:Int)) then
   (bnd a1.length x0 fun n2=>
    a1[n2]?.bind fun y3=>
    ((g_iEdgeOk (a0,y3)).bind fun r4=>
     bif !r4.1 then
      some true
     else bif decide (0<x0) then
      bnd a1.length (IntKind.wrap .i64 (x0-1)) fun n5=>
      a1[n5]?.bind fun y6=>
      (g_iahead (y6,y3)).bind fun r7=>
      some !r7.1
     else some false).bind fun x8=>
    bif x8 then
     some (Sum.inr false)
    else some (Sum.inl ())).bind fun y=>match y with
   | .inl x9=>
    self1 (IntKind.wrap .i64 (x0+1))
   | .inr x9=>
    some (Sum.inr x9)
  else some (Sum.inl ())) (0:Int)).bind fun y=>match y with
 | .inl x10=>
  some (decide ((a1.length:Int)<=66),())
 | .inr x10=>
  some (x10,()):=by kernel_rfl
def c_iownOk:TC:=
 (zS [zKh 1] (zQ (.seq (.join [⟨20,[.b],false⟩] 2097024 none (zR [zIj 7 1 1 7,zAc 9 8,zIf 10 1 0,zDB 12 9 11,zKz 13 12 6 1 0 6,zIq 16 6 1 2 6,zEh 170 15 17 18 18 6,zIt 19 18 6 13])) (zC 20 (zS [zBo 2] .ret) .skip)) (zQ (.join [] 34357641236 (some [⟨2,[.b],false⟩]) (zS [zJq 21 1 1,zAa 24] (.block 0 (.loop [⟨24,[.i .i64],false⟩] 34342961172 (zS [zAg 25 24 23] (zQ (zC 25 .skip (.exit 0)) (zQ (.block 1 (zS [zIg 26 22 24 1 1,zAb 4 27] (zS [zAb 28 4,zJq 29 1 3,zEm 32 113 28 1 31,zBz 33 32] (zC 33 (zS [zBo 2] .ret) .skip)))) (zR [zIB 34 24])))))))) (zQ (.join [] 72057559678189636 (some [⟨2,[.b],false⟩]) (zS [zJq 35 1 2,zAa 38] (.block 2 (.loop [⟨38,[.i .i64],false⟩] 72057319160021060 (zS [zAg 39 38 37] (zQ (zC 39 .skip (.exit 2)) (zQ (.block 3 (zS [zIg 40 36 38 2 2,zAv 6 1000000007,zAy 6 6 41] (zS [zIv 42 1 1 6 0,zIg 46 43 45 1 1,zIv 48 1 1 6 1,zIg 52 49 51 1 1,zEb 54 47 53] (zC 54 (zS [zBo 2] .ret) .skip)))) (zR [zIB 55 38])))))))) (zS [zDh 2] .ret)))))
def s_iownOk:Sig:=⟨[.rd true Ct2],(.one false [.d])⟩
def E_iownOk:TEnv:=envOf [(170,p_iedgesOk),(113,p_iin)]
def f_iownOk (n:Nat):Zt4->Option ((Bool) × Unit):=runFn n E_iownOk c_iownOk [Ty3] [.b] [] [2] .no
def g_iownOk:=f_iownOk BIG
def p_iownOk:TSp:=⟨s_iownOk,[Ty3],[.b],[],Ou.j .no,g_iownOk⟩
theorem k_iownOk:zK E_iownOk 164 s_iownOk c_iownOk 56 .no [2]:=by show _=_;kernel_rfl
theorem ok_iownOk:p_iownOk.Ok PG 164:=mkOk (env_cons ok_iedgesOk (env_cons ok_iin (env_nil PG))) k_iownOk (by kernel_rfl)
theorem e_iownOk (n) (a0):f_iownOk n a0 =
 (bif !decide ((a0.2.1.length:Int)=a0.1) then
  some true
  else (g_iedgesOk (a0.1,a0.2.2.1)).bind fun r0=>
  some !r0.1).bind fun x1=>
 bif x1 then
  some (false,())
 else (loopT n (X:=Int) (B:=(Unit) ⊕ (Bool)) (fun self3 x2=>
  bif decide (x2<(a0.2.1.length:Int)) then
   bnd a0.2.1.length x2 fun n4=>
   a0.2.1[n4]?.bind fun y5=>
   (g_iin (y5,(1:Int),(a0.2.2.2.1.length:Int))).bind fun r6=>
   bif !r6.1 then
    some (Sum.inr false)
   else self3 (IntKind.wrap .i64 (x2+1))
  else some (Sum.inl ())) (0:Int)).bind fun y=>match y with
 | .inl x7=>
  (loopT n (X:=Int) (B:=(Unit) ⊕ (Bool)) (fun self9 x8=>
   bif decide (x8<(a0.2.2.1.length:Int)) then
    bnd a0.2.2.1.length x8 fun n10=>
    a0.2.2.1[n10]?.bind fun y11=>
    bnd a0.2.1.length y11.1 fun n12=>
    a0.2.1[n12]?.bind fun y13=>
    bnd a0.2.1.length y11.2 fun n14=>
    a0.2.1[n14]?.bind fun y15=>
    bif decide (y13=y15) then
     some (Sum.inr false)
    else self9 (IntKind.wrap .i64 (x8+1))
   else some (Sum.inl ())) (0:Int)).bind fun y=>match y with
  | .inl x16=>
   some (true,())
  | .inr x16=>
   some (x16,())
 | .inr x7=>
  some (x7,()):=by kernel_rfl
def c_isaidAt:TC:=
 (zS [zAa 4] (zQ (.join [] 1048560 (some [⟨4,[.i .i64],false⟩]) (zS [zIy 7 0 7,zAa 9] (.block 0 (.loop [⟨9,[.i .i64],false⟩] 1048176 (zS [zAg 10 9 8] (zQ (zC 10 .skip (.exit 0)) (zQ (.block 1 (zS [zAb 11 9,zJh 12 7 9 7 6 6,zBd 6 1000000007,zAb 5 11,zAy 6 6 13] (zS [zIf 14 6 0,zAb 16 1,zEb 17 15 16] (zC 17 (zS [zJc 18 5 4] .ret) .skip)))) (zR [zAk 19 9,zAb 9 19])))))))) (zS [zAf] .ret)))
def s_isaidAt:Sig:=⟨[.rd false Ct13,.rd false [.d]],(.one false [.d])⟩
def E_isaidAt:TEnv:=envOf []
def f_isaidAt (n:Nat):(List Zt14) × Int->Option ((Int) × Unit):=runFn n E_isaidAt c_isaidAt [Ty11,[.i .i64]] [.i .i64] [] [4] .no
def g_isaidAt:=f_isaidAt BIG
def p_isaidAt:TSp:=⟨s_isaidAt,[Ty11,[.i .i64]],[.i .i64],[],Ou.j .no,g_isaidAt⟩
theorem k_isaidAt:zK E_isaidAt 69 s_isaidAt c_isaidAt 20 .no [4]:=by show _=_;kernel_rfl
theorem ok_isaidAt:p_isaidAt.Ok PG 69:=mkOk (env_nil PG) k_isaidAt (by kernel_rfl)
theorem e_isaidAt (n) (a0) (a1):f_isaidAt n (a0,a1) = (loopT n (X:=Int) (B:=(Unit) ⊕ (Int)) (fun self1 x0=> bif decide (x0<(a0.length:Int)) then bnd a0.length x0 fun n2=> a0[n2]?.bind fun y3=> bif decide (y3.1=a1) then some (Sum.inr x0) else self1 (IntKind.wrap .i64 (x0+1)) else some (Sum.inl ())) (0:Int)).bind fun y=>match y with | .inl x4=> some ((-1:Int),()) | .inr x4=> some (x4,()):=by kernel_rfl
def c_isaidOk:TC:=
 (zS [zBo 2] (zQ (.join [] 17179869180 (some [⟨2,[.b],false⟩]) (zS [zIy 5 0 5,zAa 7] (.block 0 (.loop [⟨7,[.i .i64],false⟩] 17179869084 (zS [zAg 8 7 6] (zQ (zC 8 .skip (.exit 0)) (zQ (.join [] 8589934108 (some [⟨2,[.b],false⟩]) (.block 1 (zS [zAb 9 7,zJh 10 5 7 5 6 6,zBd 4 1000000005,zAb 3 9,zAy 4 4 11] (zQ (.join [⟨32,[.b],false⟩] 8589930496 none (zR [zIf 12 4 0,zJt 14 4 1,zDB 17 13 16,zKz 18 17 6 4 5 6,zKt 113 20 3 21 21 6 6 18,zBA 25 0 12,zBA 26 3 12,[o2 27 (.res 25 none (some (.t 26))) 12 false],zIw 28 12 4 0,zEh 69 27 29 30 30 12,zGj 31 30 0 12,zBD 24 31 32])) (zC 32 (zS [zBo 2] .ret) .skip))))) (zR [zAk 33 7,zAb 7 33])))))))) (zS [zJm 34 0,zDA 36 35 80,zAb 2 36] .ret)))
def s_isaidOk:Sig:=⟨[.rd false Ct13],(.one false [.d])⟩
def E_isaidOk:TEnv:=envOf [(113,p_iin),(69,p_isaidAt)]
def f_isaidOk (n:Nat):(List Zt14)->Option ((Bool) × Unit):=runFn n E_isaidOk c_isaidOk [Ty11] [.b] [] [2] .no
def g_isaidOk:=f_isaidOk BIG
def p_isaidOk:TSp:=⟨s_isaidOk,[Ty11],[.b],[],Ou.j .no,g_isaidOk⟩
theorem k_isaidOk:zK E_isaidOk 165 s_isaidOk c_isaidOk 37 .no [2]:=by show _=_;kernel_rfl
theorem ok_isaidOk:p_isaidOk.Ok PG 165:=mkOk (env_cons ok_iin (env_cons ok_isaidAt (env_nil PG))) k_isaidOk (by kernel_rfl)
theorem e_isaidOk (n) (a0):f_isaidOk n a0 =
 (loopT n (X:=Int) (B:=(Unit) ⊕ (Bool)) (fun self1 x0=>
  bif decide (x0<(a0.length:Int)) then
   (bnd a0.length x0 fun n2=>
    a0[n2]?.bind fun y3=>
    (bif !decide (y3.1=y3.2.1) then
     some true
     else (g_iin (y3.2.2.2.2.2,(1:Int),(3:Int))).bind fun r4=>
     bif !r4.1 then
      some true
     else bif decide (0<=x0) then
      bif decide (0<=(Int.toNat x0)/\(Int.toNat x0)<=a0.length) then
       (g_isaidAt (List.take ((Int.toNat x0)-0) (List.drop 0 a0),y3.1)).bind fun r5=>
       some (decide (0<=r5.1))
      else none
     else none).bind fun x6=>
    bif x6 then
     some (Sum.inr false)
    else some (Sum.inl ()):Option ((Unit) ⊕ (Bool))).bind fun y=>match y with
   | .inl x7=>
    self1 (IntKind.wrap .i64 (x0+1))
   | .inr x7=>
    some (Sum.inr x7)
  else some (Sum.inl ())) (0:Int)).bind fun y=>match y with
 | .inl x8=>
  some (decide ((a0.length:Int)<=80),())
 | .inr x8=>
  some (x8,()):=by kernel_rfl
def c_inoTask:TC:=
 (zS [zKh 1] (zS [zAn 4,zAp 5 1 5 4 4,zAD 3 1000000004,zAy 3 3 5] (zQ (.join [⟨2,[.b],false⟩] 68719476676 none (zR [zKg 6 1 0 6 4,[o1 8 (.build Ty19 [])],zEe 9 7 8,zKi 10 9 4 1 4 4,zEf 13 12 4,zIx 10 13 14,zIA 16 9 3 0 9,zEf 18 17 9,zIx 15 18 19,zIs 21 14 3 1,zEf 23 22 14,zIx 20 23 24,zIs 26 19 3 2,zGz 28 27 19,zEf 29 28 19,zIx 25 29 30,zIs 32 25 3 3,zEf 34 33 25,zJe 31 34 35 2])) .ret)))
def s_inoTask:Sig:=⟨[.rd true Ct8],(.one false [.d])⟩
def E_inoTask:TEnv:=envOf []
def f_inoTask (n:Nat):Zt9->Option ((Bool) × Unit):=runFn n E_inoTask c_inoTask [Ty8] [.b] [] [2] .no
def g_inoTask:=f_inoTask BIG
def p_inoTask:TSp:=⟨s_inoTask,[Ty8],[.b],[],Ou.j .no,g_inoTask⟩
theorem k_inoTask:zK E_inoTask 187 s_inoTask c_inoTask 36 .no [2]:=by show _=_;kernel_rfl
theorem ok_inoTask:p_inoTask.Ok PG 187:=mkOk (env_nil PG) k_inoTask (by kernel_rfl)
theorem e_inoTask (n) (a0):f_inoTask n a0 = (bif (decide (a0.1=0)&&(decide (a0.2.1=0)&&(decide (a0.2.2.1=0)&&(decide (a0.2.2.2.1=0)&&true)))) then bif decide (a0.2.2.2.2.1=0) then bif decide (a0.2.2.2.2.2.1=0) then bif decide (a0.2.2.2.2.2.2.1=0) then bif decide ((a0.2.2.2.2.2.2.2.1.length:Int)=0) then some (decide (a0.2.2.2.2.2.2.2.2=0)) else some false else some false else some false else some false else some false).bind fun x0=> some (x0,()):=by kernel_rfl
def c_ibadAsk:TC:=
 (zS [zJB 2 1] (zS [zIj 7 2 0 7,zEn 9 8,zAb 5 9] (zS [zAa 6] (zQ (.join [⟨6,[.i .i64],false⟩,⟨5,[.i .i64],false⟩] 64608 none (zS [zJy 10 3 1 4] (zC 12 (zR [zJq 13 2 3,zGg 6 1,zAb 5 15]) .skip))) (zQ (.seq (.join [⟨36,[.b],false⟩] 137438887936 none (zR [zIf 16 3 1,zBy 18 113 17 4,zJk 19 18,zIq 21 4 3 2 4,zIq 23 4 2 0 4,zEj 25 24 4,zEk 113 22 0 25 26 26 4,zJg 27 26 4 20,zIw 30 13 3 3,zBA 32 6 13,zBA 33 5 13,zHy 113 31 32 33 34 34 13,zIt 35 34 13 29])) (zC 36 (zS [zDh 4] .ret) .skip)) (zQ (.join [⟨4,[.b],false⟩] 4503462188417040 none (zR [zIv 37 3 2 3 3,zEb 41 38 40,zKi 42 41 5 3 1 5,zHa 45 44 1 5,zBq 46 45 5,zIq 47 9 3 1 9,zHz 49 48 2 9,zHA 46 49 50 50 5,zJe 42 50 51 4])) .ret))))))
def s_ibadAsk:Sig:=⟨[.rd true Ct2,.rd true [.d,.d,.d,.d]],(.one false [.d])⟩
def E_ibadAsk:TEnv:=envOf [(113,p_iin)]
def f_ibadAsk (n:Nat):Zt4 × Zt19->Option ((Bool) × Unit):=runFn n E_ibadAsk c_ibadAsk [Ty3,Ty19] [.b] [] [4] .no
def g_ibadAsk:=f_ibadAsk BIG
def p_ibadAsk:TSp:=⟨s_ibadAsk,[Ty3,Ty19],[.b],[],Ou.j .no,g_ibadAsk⟩
theorem k_ibadAsk:zK E_ibadAsk 167 s_ibadAsk c_ibadAsk 52 .no [4]:=by show _=_;kernel_rfl
theorem ok_ibadAsk:p_ibadAsk.Ok PG 167:=mkOk (env_cons ok_iin (env_nil PG)) k_ibadAsk (by kernel_rfl)
theorem e_ibadAsk (n) (a0) (a1):f_ibadAsk n (a0,a1) = (bif decide (a1.2.1=4) then some ((1:Int),(a0.2.2.2.1.length:Int)) else some ((0:Int),IntKind.wrap .i64 (a0.1-1)):Option Zt20).bind fun x0=> ((g_iin (a1.2.1,(1:Int),(4:Int))).bind fun r1=> bif !r1.1 then some true else (g_iin (a1.2.2.1,(0:Int),IntKind.wrap .i64 (a0.1-1))).bind fun r2=> bif !r2.1 then some true else (g_iin (a1.2.2.2,x0.1,x0.2)).bind fun r3=> some !r3.1).bind fun x4=> bif x4 then some (true,()) else (bif decide (a1.2.2.1=a1.2.2.2) then bif decide (a1.2.1=1) then some true else some (decide (a1.2.1=2)) else some false).bind fun x5=> some (x5,()):=by kernel_rfl
def c_iOrderOk:TC:=
 (zS [zJp 3 1] (zQ (.seq (.join [⟨30,[.b],false⟩] 2147483616 none (zR [zAb 5 0,zBy 6 113 5 12,zBz 7 6,zAb 8 7,zDr 9 3,zDs 10 3 0 9 3,zKt 113 10 100000 11 11 3 3 8,zBA 15 0 9,zIq 16 9 3 2 9,zEh 170 15 17 18 18 9,zJg 19 18 9 14,zIw 22 16 3 3,[o2 24 (.data (.bin .neq) [.t 23,kD 0]) 16 false],zBA 25 24 16,zIs 26 20 3 1,zEt 28 27 3 20,zLa 25 28 29 29 16 21])) (zC 30 (zS [zBo 4] .ret) .skip)) (zQ (.join [] 576460750155939856 (some [⟨4,[.b],false⟩]) (zS [zIf 31 3 1] (.block 0 (zQ (.join [⟨33,[.b],false⟩] 60129542144 none (zS [zEi 34 32 1,zAb 33 34] (zC 33 .skip (zR [zEi 35 32 2,zAb 33 35])))) (zC 33 (zS [zJq 36 3 2,zEi 39 38 1,zAb 4 39] .ret) (zS [zEi 41 32 3,zAb 40 41] (zC 40 (zQ (.join [⟨4,[.b],false⟩] 9002801208229904 none (zR [zJq 42 3 2,zEi 45 44 0,zKi 46 45 4 3 3 4,zBq 49 0 4,zKn 50 49 4 113 48 4,zJe 46 51 52 4])) .ret) (zS [zEi 54 32 4,zAb 53 54] (zC 53 (zS [zJq 55 3 2,[o1 58 (.data (.bin .gtr) [.t 57,kD 0])],zAb 4 58] .ret) .skip))))))))) (zS [zBo 4] .ret))))
def s_iOrderOk:Sig:=⟨[.rd false [.d],.rd true Ct14],(.one false [.d])⟩
def E_iOrderOk:TEnv:=envOf [(113,p_iin),(170,p_iedgesOk)]
def f_iOrderOk (n:Nat):Int × Zt13->Option ((Bool) × Unit):=runFn n E_iOrderOk c_iOrderOk [[.i .i64],Ty14] [.b] [] [4] .no
def g_iOrderOk:=f_iOrderOk BIG
def p_iOrderOk:TSp:=⟨s_iOrderOk,[[.i .i64],Ty14],[.b],[],Ou.j .no,g_iOrderOk⟩
theorem k_iOrderOk:zK E_iOrderOk 188 s_iOrderOk c_iOrderOk 59 .no [4]:=by show _=_;kernel_rfl
theorem ok_iOrderOk:p_iOrderOk.Ok PG 188:=mkOk (env_cons ok_iin (env_cons ok_iedgesOk (env_nil PG))) k_iOrderOk (by kernel_rfl)
theorem e_iOrderOk (n) (a0) (a1):f_iOrderOk n (a0,a1) = ((g_iin (a0,(1:Int),(12:Int))).bind fun r0=> bif !r0.1 then some true else (g_iin (a1.1,(1:Int),(100000:Int))).bind fun r1=> bif !r1.1 then some true else (g_iedgesOk (a0,a1.2.2.1)).bind fun r2=> bif !r2.1 then some true else bif !decide (a1.2.2.2=0) then some (!decide (a1.2.1=3)) else some false).bind fun x3=> bif x3 then some (false,()) else ((bif decide (a1.2.1=1) then some true else some (decide (a1.2.1=2))).bind fun x4=> bif x4 then some (Sum.inr (decide ((a1.2.2.1.length:Int)=1))) else bif decide (a1.2.1=3) then (bif decide ((a1.2.2.1.length:Int)=0) then (g_iin (a1.2.2.2,(0:Int),IntKind.wrap .i64 (a0-1))).bind fun r5=> some r5.1 else some false).bind fun x6=> some (Sum.inr x6) else bif decide (a1.2.1=4) then some (Sum.inr (decide (0<(a1.2.2.1.length:Int)))) else some (Sum.inl ())).bind fun y=>match y with | .inl x7=> some (false,()) | .inr x7=> some (x7,()):=by kernel_rfl
def c_itaskOk:TC:=
 (zS [zKh 1] (zS [zKg 5 1 5 5 9,zBc 3 1000000004,zAy 3 3 6] (zQ (zS [zLe 7 3 9 187 7] (zC 8 (zS [zDh 2] .ret) .skip)) (zS [zKg 9 3 0 9 4,zAC 4 1000000005,zAy 4 4 10] (zQ (.seq (.join [⟨24,[.b],false⟩] 33552384 none (zR [zIf 11 4 0,zBy 13 113 12 100000,zJk 14 13,zIq 16 4 4 1 4,zHz 18 17 3 4,zBD 15 18 19,zAb 20 19,zEx 21 1 15 9,zKD 22 4 4 9 167 21 9,zBD 20 23 24])) (zC 24 (zS [zBo 2] .ret) .skip)) (zQ (.join [⟨2,[.b],false⟩] 1152921504573292548 none (zR [zIv 25 3 4 1 3,zAc 29 28,zEm 30 113 26 1 29,zKi 31 30 6 1 0 6,zDm 34 6,zEg 35 3 5 34 4 6,zDy 188 33 35 36 36 6,zIx 31 36 37,zKp 39 13 3 5,zKE 42 13 1 4 3 4,zDo 46 45 13,zDw 47 43 46 13,zEp 48 43 1 47 13,zEq 49 48 13,zEd 50 41 49 13,zIx 38 50 51,zKE 53 27 1 14 4 0,zDy 69 54 56 57 57 27,zEs 58 57,zJe 52 58 59 2])) .ret))))))
def s_itaskOk:Sig:=⟨[.rd true Ct2],(.one false [.d])⟩
def E_itaskOk:TEnv:=envOf [(187,p_inoTask),(113,p_iin),(167,p_ibadAsk),(188,p_iOrderOk),(69,p_isaidAt)]
def f_itaskOk (n:Nat):Zt4->Option ((Bool) × Unit):=runFn n E_itaskOk c_itaskOk [Ty3] [.b] [] [2] .no
def g_itaskOk:=f_itaskOk BIG
def p_itaskOk:TSp:=⟨s_itaskOk,[Ty3],[.b],[],Ou.j .no,g_itaskOk⟩
theorem k_itaskOk:zK E_itaskOk 166 s_itaskOk c_itaskOk 60 .no [2]:=by show _=_;kernel_rfl
theorem ok_itaskOk:p_itaskOk.Ok PG 166:=mkOk (env_cons ok_inoTask (env_cons ok_iin (env_cons ok_ibadAsk (env_cons ok_iOrderOk (env_cons ok_isaidAt (env_nil PG)))))) k_itaskOk (by kernel_rfl)
theorem e_itaskOk (n) (a0):f_itaskOk n a0 = (g_inoTask (a0.2.2.2.2.2.1,a0.2.2.2.2.2.2.1,a0.2.2.2.2.2.2.2.1,a0.2.2.2.2.2.2.2.2.1,a0.2.2.2.2.2.2.2.2.2.1,a0.2.2.2.2.2.2.2.2.2.2.1,a0.2.2.2.2.2.2.2.2.2.2.2.1,a0.2.2.2.2.2.2.2.2.2.2.2.2.1,a0.2.2.2.2.2.2.2.2.2.2.2.2.2.1)).bind fun r0=> bif r0.1 then some (true,()) else ((g_iin (a0.2.2.2.2.2.1,(1:Int),(100000:Int))).bind fun r1=> bif !r1.1 then some true else bif decide (a0.2.2.2.2.2.2.1=3) then some true else (g_ibadAsk (a0,(a0.2.2.2.2.2.1,a0.2.2.2.2.2.2.1,a0.2.2.2.2.2.2.2.1,a0.2.2.2.2.2.2.2.2.1))).bind fun r2=> some r2.1).bind fun x3=> bif x3 then some (false,()) else ((g_iin (a0.2.2.2.2.2.2.2.2.2.1,(1:Int),(a0.2.2.2.1.length:Int))).bind fun r4=> bif r4.1 then (g_iOrderOk (a0.1,(a0.2.2.2.2.2.2.2.2.2.2.1,a0.2.2.2.2.2.2.2.2.2.2.2.1,a0.2.2.2.2.2.2.2.2.2.2.2.2.1,a0.2.2.2.2.2.2.2.2.2.2.2.2.2.1))).bind fun r5=> bif r5.1 then bnd a0.2.2.2.2.1.length (IntKind.wrap .i64 (a0.2.2.2.2.2.2.2.2.2.1-1)) fun n6=> a0.2.2.2.2.1[n6]?.bind fun y7=> bif decide (a0.2.2.2.2.2.2.2.2.2.2.1=(IntKind.wrap .i64 (y7+1))) then (g_isaidAt (a0.2.2.2.2.2.2.2.2.2.2.2.2.2.2,a0.2.2.2.2.2.1)).bind fun r8=> some (decide (r8.1<0)) else some false else some false else some false).bind fun x9=> some (x9,()):=by kernel_rfl
def c_iHeadOk:TC:=
 (zS [zKh 1] (zQ (.seq (.join [⟨24,[.b],false⟩] 33554400 none (zR [zIj 5 1 0 5,zBy 7 113 6 12,zBz 8 7,zKz 9 8 4 1 3 4,zEv 12 11 4,zKt 113 12 3 13 13 4 4 9,zKq 17 11 1 4,zKq 20 11 1 3,zJx 23 19 22 11 16])) (zC 24 (zS [zBo 2] .ret) .skip)) (zQ (.join [] 281474943156252 (some [⟨2,[.b],false⟩]) (zS [zJq 25 1 3,zAa 28] (.block 0 (.loop [⟨28,[.i .i64],false⟩] 281474708275228 (zS [zAg 29 28 27] (zQ (zC 29 .skip (.exit 0)) (zQ (.join [] 140736414613532 (some [⟨2,[.b],false⟩]) (.block 1 (zS [zAb 30 28,zIg 31 26 28 1 1,zAb 3 30,zAb 4 32] (zQ (.join [⟨46,[.b],false⟩] 140728898420736 none (zR [zIf 33 1 0,zAb 35 4,zIp 36 163 34 35,zKz 38 37 5 1 4 5,zLi 41 3 5 40 5,zDE 43 40 42 5,zEw 113 43 0 99991 44 44 5,zIt 45 44 5 38])) (zC 46 (zS [zBo 2] .ret) .skip))))) (zR [zIB 47 28])))))))) (zQ (.join [⟨2,[.b],false⟩] 576179277326712836 none (zR [zJi 48 1 15 164,zKi 50 49 2 1 14 2,zHv 165 52 53 53 2,zIx 50 53 54,zEr 56 1 15 7,zHv 166 56 57 57 7,zJe 55 57 58 2])) .ret))))
def s_iHeadOk:Sig:=⟨[.rd true Ct2],(.one false [.d])⟩
def E_iHeadOk:TEnv:=envOf [(113,p_iin),(163,p_ilabelsOk),(164,p_iownOk),(165,p_isaidOk),(166,p_itaskOk)]
def f_iHeadOk (n:Nat):Zt4->Option ((Bool) × Unit):=runFn n E_iHeadOk c_iHeadOk [Ty3] [.b] [] [2] .no
def g_iHeadOk:=f_iHeadOk BIG
def p_iHeadOk:TSp:=⟨s_iHeadOk,[Ty3],[.b],[],Ou.j .no,g_iHeadOk⟩
theorem k_iHeadOk:zK E_iHeadOk 116 s_iHeadOk c_iHeadOk 59 .no [2]:=by show _=_;kernel_rfl
theorem ok_iHeadOk:p_iHeadOk.Ok PG 116:=mkOk (env_cons ok_iin (env_cons ok_ilabelsOk (env_cons ok_iownOk (env_cons ok_isaidOk (env_cons ok_itaskOk (env_nil PG)))))) k_iHeadOk (by kernel_rfl)
theorem e_iHeadOk (n) (a0):f_iHeadOk n a0 =
 ((g_iin (a0.1,(1:Int),(12:Int))).bind fun r0=>
  bif !r0.1 then
   some true
  else (g_iin ((a0.2.2.2.1.length:Int),(1:Int),(3:Int))).bind fun r1=>
  bif !r1.1 then
   some true
  else some (!decide ((a0.2.2.2.2.1.length:Int)=(a0.2.2.2.1.length:Int)))).bind fun x2=>
 bif x2 then
  some (false,())
 else (loopT n (X:=Int) (B:=(Unit) ⊕ (Bool)) (fun self4 x3=>
  bif decide (x3<(a0.2.2.2.1.length:Int)) then
   (bnd a0.2.2.2.1.length x3 fun n5=>
    a0.2.2.2.1[n5]?.bind fun y6=>
    ((g_ilabelsOk (a0.1,y6)).bind fun r7=>
     bif !r7.1 then
      some true
     else bnd a0.2.2.2.2.1.length x3 fun n8=>
     a0.2.2.2.2.1[n8]?.bind fun y9=>
     (g_iin (y9,(0:Int),(99991:Int))).bind fun r10=>
     some !r10.1).bind fun x11=>
    bif x11 then
     some (Sum.inr false)
    else some (Sum.inl ())).bind fun y=>match y with
   | .inl x12=>
    self4 (IntKind.wrap .i64 (x3+1))
   | .inr x12=>
    some (Sum.inr x12)
  else some (Sum.inl ())) (0:Int)).bind fun y=>match y with
 | .inl x13=>
  ((g_iownOk a0).bind fun r14=>
   bif r14.1 then
    (g_isaidOk a0.2.2.2.2.2.2.2.2.2.2.2.2.2.2).bind fun r15=>
    bif r15.1 then
     (g_itaskOk a0).bind fun r16=>
     some r16.1
    else some false
   else some false).bind fun x17=>
  some (x17,())
 | .inr x13=>
  some (x13,()):=by kernel_rfl
def c_iBusy:TC:=
 (zS [zKh 1] (zS [zAn 3,zBw 4 3,zAo 5 1 9 4,zEy 6 5 0,zAb 2 6] .ret))
def s_iBusy:Sig:=⟨[.rd true Ct2],(.one false [.d])⟩
def E_iBusy:TEnv:=envOf []
def f_iBusy (n:Nat):Zt4->Option ((Bool) × Unit):=runFn n E_iBusy c_iBusy [Ty3] [.b] [] [2] .no
def g_iBusy:=f_iBusy BIG
def p_iBusy:TSp:=⟨s_iBusy,[Ty3],[.b],[],Ou.j .no,g_iBusy⟩
theorem k_iBusy:zK E_iBusy 74 s_iBusy c_iBusy 7 .no [2]:=by show _=_;kernel_rfl
theorem ok_iBusy:p_iBusy.Ok PG 74:=mkOk (env_nil PG) k_iBusy (by kernel_rfl)
theorem e_iBusy (n) (a0):f_iBusy n a0 = some (!decide (a0.2.2.2.2.2.2.2.2.2.1=0),()):=by kernel_rfl
def c_iHead_say:TC:=
 (zS [zDk 4 1,zAa 6] (zS [zEz 7,zEz 8,zAb 15 2,zEA 9 8,zBw 10 9,zEB 11 14 10,zIf 12 4 0,zAx 14 4 4,zEC 16 13 14 15,zED 17 16,zDc 11 11 17 18 11 11 0 18,zIn 19 7,zDd 0 18 11 0 14 20 18] (zS [zGg 6 1] .ret)))
def s_iHead_say:Sig:=⟨[.mp Ct2,.rd true [.d,.d,.d,.d],.rd false [.d]],(.one false [.d])⟩
def E_iHead_say:TEnv:=envOf []
def f_iHead_say (n:Nat):Zt4 × Zt19 × Int->Option ((Int) × Int × List Int × List Zt20 × List (List Int) × List Int × Int × Int × Int × Int × Int × Int × Int × List Zt20 × Int × List Zt14):=runFn n E_iHead_say c_iHead_say [Ty3,Ty19,[.i .i64]] [.i .i64] Ty3 [6] (.mp 0)
def g_iHead_say:=f_iHead_say BIG
def p_iHead_say:TSp:=⟨s_iHead_say,[Ty3,Ty19,[.i .i64]],[.i .i64],Ty3,Ou.j (.mp 0),g_iHead_say⟩
theorem k_iHead_say:zK E_iHead_say 120 s_iHead_say c_iHead_say 21 (.mp 0) [6]:=by show _=_;kernel_rfl
theorem ok_iHead_say:p_iHead_say.Ok PG 120:=mkOk (env_nil PG) k_iHead_say (by kernel_rfl)
theorem e_iHead_say (n) (a0) (a1) (a2):f_iHead_say n (a0,a1,a2) = bif decide (a0.2.2.2.2.2.2.2.2.2.2.2.2.2.2.length+([(a1.1,a1.1,a1.2.1,a1.2.2.1,a1.2.2.2,a2)]).length<=4294967296) then some ((1:Int),(a0.1,a0.2.1,a0.2.2.1,a0.2.2.2.1,a0.2.2.2.2.1,a0.2.2.2.2.2.1,a0.2.2.2.2.2.2.1,a0.2.2.2.2.2.2.2.1,a0.2.2.2.2.2.2.2.2.1,a0.2.2.2.2.2.2.2.2.2.1,a0.2.2.2.2.2.2.2.2.2.2.1,a0.2.2.2.2.2.2.2.2.2.2.2.1,a0.2.2.2.2.2.2.2.2.2.2.2.2.1,a0.2.2.2.2.2.2.2.2.2.2.2.2.2.1,a0.2.2.2.2.2.2.2.2.2.2.2.2.2.2++([(a1.1,a1.1,a1.2.1,a1.2.2.1,a1.2.2.2,a2)]))) else none:=by kernel_rfl
def c_iunion:TC:=
 (zS [zBo 6] (zS [zAt 10 0,zAb 11 1,zAt 14 0,zAb 15 2,zJh 12 10 11 0 1 1,zJh 16 14 15 0 1 1,zIh 7 13 17] (zQ (zS [zIh 18 7 8,zEb 20 18 19] (zC 20 (zS [zBo 6] .ret) .skip)) (zQ (.join [⟨0,[.sl [.i .i64]],false⟩] 2199021158913 none (zS [zAt 21 0,zAc 22 21,zAa 23] (.block 0 (.loop [⟨0,[.sl [.i .i64]],false⟩,⟨23,[.i .i64],false⟩] 2199016982017 (zS [zAg 24 23 22] (zQ (zC 24 .skip (.exit 0)) (zQ (.join [⟨0,[.sl [.i .i64]],false⟩] 1099478073857 none (.block 1 (zS [zJc 25 23 9] (zS [zAt 26 0,zAb 27 9,zJh 28 26 27 0 1 1,zIh 30 7 8,[o1 32 (.data .max [.t 30,.t 31])],zEb 33 29 32] (zC 33 (zR [zAt 34 0,zIh 35 9 7,zAb 37 8,[o1 38 (.data .min [.t 36,.t 37])],zAh 39 34 35,[o4 1 [0,26,34] (.store 0 [(0,1)] 0 (.t 39) (.t 38))]]) .skip))))) (zR [zIB 40 23])))))))) (zS [zDh 6] .ret)))))
def s_iunion:Sig:=⟨[.mt false Ct21,.rd false [.d],.rd false [.d]],(.one false [.d])⟩
def E_iunion:TEnv:=envOf []
def f_iunion (n:Nat):List Int × Int × Int->Option ((Bool) × List Int):=runFn n E_iunion c_iunion [[.sl [.i .i64]],[.i .i64],[.i .i64]] [.b] [.sl [.i .i64]] [6] (.mt 0 0 0)
def g_iunion:=f_iunion BIG
def p_iunion:TSp:=⟨s_iunion,[[.sl [.i .i64]],[.i .i64],[.i .i64]],[.b],[.sl [.i .i64]],Ou.j (.mt 0 0 0),g_iunion⟩
theorem k_iunion:chkW PG E_iunion 127 s_iunion (c_iunion.ht 41) (.mt 0 0 0)=some (c_iunion.wc E_iunion,[6]):=by kernel_rfl
theorem ok_iunion:p_iunion.Ok PG 127:=mkOk (env_nil PG) k_iunion (by kernel_rfl)
theorem e_iunion (n) (a0) (a1) (a2):f_iunion n (a0,a1,a2) = bnd a0.length a1 fun n0=> a0[n0]?.bind fun y1=> bnd a0.length a2 fun n2=> a0[n2]?.bind fun y3=> bif decide (y1=y3) then some (false,a0) else (loopT n (X:=(List Int) × Int) (B:=(List Int)) (fun self5 x4=> bif decide (x4.2<(a0.length:Int)) then (bnd x4.1.length x4.2 fun n6=> x4.1[n6]?.bind fun y7=> bif decide (y7=(if y3 > y1 then y3 else y1)) then bnd x4.1.length x4.2 fun n8=> x4.1[n8]?.bind fun y9=> some (x4.1.set n8 (if y3<y1 then y3 else y1)) else some x4.1).bind fun x10=> self5 (x10,IntKind.wrap .i64 (x4.2+1)) else some x4.1) (a0,(0:Int))).bind fun x11=> some (true,x11):=by kernel_rfl
def c_iWholeLabels:TC:=
 (zS [zAr 6,zBo 7] (zQ (.seq (.join [⟨22,[.b],false⟩] 8355840 none (zR [zAb 15 0,zBy 16 113 15 12,zJk 17 16,zBA 19 1 3,zEv 20 19 3,zDv 21 20 3 3,zBD 18 21 22])) (zC 22 (zS [zAr 6,zBo 7] .ret) .skip)) (zS [zAb 23 0,zAA 24 114 23,zAs 24 8 24] (zQ (.join [⟨8,[.sl [.i .i64]],false⟩] 4503599593823680 (some [⟨6,[.sl [.i .i64]],false⟩,⟨7,[.b],false⟩]) (zS [zKm 25 1] (.block 0 (.loop [⟨8,[.sl [.i .i64]],false⟩,⟨27,[.i .i64],false⟩] 4503599493160384 (zS [zAg 28 27 26] (zQ (zC 28 .skip (.exit 0)) (zQ (.join [⟨8,[.sl [.i .i64]],false⟩] 2251799276821952 (some [⟨6,[.sl [.i .i64]],false⟩,⟨7,[.b],false⟩]) (.block 1 (zS [zIg 29 25 27 1 1,zAb 10 30] (zQ (zS [zJm 31 10,zAb 33 0,zDB 34 32 33] (zC 34 (zS [zAr 6,zBo 7] .ret) .skip)) (zS [zKm 35 10] (.block 2 (.loop [⟨8,[.sl [.i .i64]],false⟩,⟨37,[.i .i64],false⟩] 2251662374738368 (zS [zAg 38 37 36] (zQ (zC 38 .skip (.exit 2)) (zQ (.block 3 (zS [zAb 39 37,zIg 40 35 37 1 1,zAb 11 39,zAb 12 41] (zQ (zS [zIh 42 12 11,zDC 44 113 42 43,zBz 45 44] (zC 45 (zS [zAr 6,zBo 7] .ret) .skip)) (zR [zAt 46 8,zIh 47 12 11,zHB 46 47 48 8 46 49 8 46 49])))) (zR [zIB 50 37]))))))))))) (zR [zIB 51 27])))))))) (zQ (.join [⟨8,[.sl [.i .i64]],false⟩] 590291306759078298048 (some [⟨6,[.sl [.i .i64]],false⟩,⟨7,[.b],false⟩]) (zS [zKm 52 2] (.block 4 (.loop [⟨8,[.sl [.i .i64]],false⟩,⟨54,[.i .i64],false⟩] 590277795960196186560 (zS [zAg 55 54 53] (zQ (zC 55 .skip (.exit 4)) (zQ (.block 5 (zS [zIg 56 52 54 2 2,zAv 14 1000000015,zAy 14 14 57] (zQ (zS [zAb 58 0,zAx 59 14 2,zIp 60 128 58 59] (zC 61 (zS [zAr 6,zBo 7] .ret) .skip)) (zR [zAt 62 8,zIf 63 14 0,zIf 65 14 1,zHB 62 64 66 8 62 67 8 62 67])))) (zR [zIB 68 54])))))))) (zS [zJb 8 69 8 6,zDh 7] .ret))))))
def s_iWholeLabels:Sig:=⟨[.rd false [.d],.rd false Ct11,.rd false Ct20],(.tup [(false,1),(false,1)] [.sl (.own none) [.d],.d])⟩
def E_iWholeLabels:TEnv:=envOf [(113,p_iin),(114,p_ifirst),(127,p_iunion),(128,p_iEdgeOk)]
def f_iWholeLabels (n:Nat):Int × List (List Int) × (List Zt20)->Option ((List Int × Bool) × Unit):=runFn n E_iWholeLabels c_iWholeLabels [[.i .i64],[.sl [.sl [.i .i64]]],[.sl [.i .i64,.i .i64]]] [.sl [.i .i64],.b] [] [6,7] .no
def g_iWholeLabels:=f_iWholeLabels BIG
def p_iWholeLabels:TSp:=⟨s_iWholeLabels,[[.i .i64],[.sl [.sl [.i .i64]]],[.sl [.i .i64,.i .i64]]],[.sl [.i .i64],.b],[],Ou.j .no,g_iWholeLabels⟩
theorem k_iWholeLabels:zK E_iWholeLabels 75 s_iWholeLabels c_iWholeLabels 70 .no [6,7]:=by show _=_;kernel_rfl
theorem ok_iWholeLabels:p_iWholeLabels.Ok PG 75:=mkOk (env_cons ok_iin (env_cons ok_ifirst (env_cons ok_iunion (env_cons ok_iEdgeOk (env_nil PG))))) k_iWholeLabels (by kernel_rfl)
theorem e_iWholeLabels (n) (a0) (a1) (a2):f_iWholeLabels n (a0,a1,a2) =
 ((g_iin (a0,(1:Int),(12:Int))).bind fun r0=>
  bif !r0.1 then
   some true
  else some (decide (3<(a1.length:Int)))).bind fun x1=>
 bif x1 then
  some (([],false),())
 else (g_ifirst a0).bind fun r2=>
 (loopT n (X:=(List Int) × Int) (B:=((List Int)) ⊕ ((List Int) × Bool)) (fun self4 x3=>
  bif decide (x3.2<(a1.length:Int)) then
   (bnd a1.length x3.2 fun n5=>
    a1[n5]?.bind fun y6=>
    bif !decide ((y6.length:Int)=a0) then
     some (Sum.inr ([],false))
    else loopT n (X:=(List Int) × Int) (B:=((List Int)) ⊕ ((List Int) × Bool)) (fun self8 x7=>
     bif decide (x7.2<(y6.length:Int)) then
      bnd y6.length x7.2 fun n9=>
      y6[n9]?.bind fun y10=>
      (g_iin (y10,(0:Int),x7.2)).bind fun r11=>
      bif !r11.1 then
       some (Sum.inr ([],false))
      else (g_iunion (x7.1,y10,x7.2)).bind fun r12=>
      self8 (r12.2,IntKind.wrap .i64 (x7.2+1))
     else some (Sum.inl x7.1)) (x3.1,(0:Int)):Option (((List Int)) ⊕ ((List Int) × Bool))).bind fun y=>match y with
   | .inl x13=>
    self4 (x13,IntKind.wrap .i64 (x3.2+1))
   | .inr x13=>
    some (Sum.inr (x13.1,x13.2))
  else some (Sum.inl x3.1)) (r2.1,(0:Int))).bind fun y=>match y with
 | .inl x14=>
  (loopT n (X:=(List Int) × Int) (B:=((List Int)) ⊕ ((List Int) × Bool)) (fun self16 x15=>
   bif decide (x15.2<(a2.length:Int)) then
    bnd a2.length x15.2 fun n17=>
    a2[n17]?.bind fun y18=>
    (g_iEdgeOk (a0,y18)).bind fun r19=>
    bif !r19.1 then
     some (Sum.inr ([],false))
    else (g_iunion (x15.1,y18.1,y18.2)).bind fun r20=>
    self16 (r20.2,IntKind.wrap .i64 (x15.2+1))
   else some (Sum.inl x15.1)) (x14,(0:Int))).bind fun y=>match y with
  | .inl x21=>
   some ((x21,true),())
  | .inr x21=>
   some (x21,())
 | .inr x14=>
  some (x14,()):=by kernel_rfl
def c_iyesNo:TC:=
 (zS [zAa 2] (zQ (zS [zAb 3 0] (zC 3 (zS [zGg 2 1] .ret) .skip)) (zS [zGg 2 2] .ret)))
def s_iyesNo:Sig:=⟨[.rd false [.d]],(.one false [.d])⟩
def E_iyesNo:TEnv:=envOf []
def f_iyesNo (n:Nat):Bool->Option ((Int) × Unit):=runFn n E_iyesNo c_iyesNo [[.b]] [.i .i64] [] [2] .no
def g_iyesNo:=f_iyesNo BIG
def p_iyesNo:TSp:=⟨s_iyesNo,[[.b]],[.i .i64],[],Ou.j .no,g_iyesNo⟩
theorem k_iyesNo:zK E_iyesNo 121 s_iyesNo c_iyesNo 4 .no [2]:=by show _=_;kernel_rfl
theorem ok_iyesNo:p_iyesNo.Ok PG 121:=mkOk (env_nil PG) k_iyesNo (by kernel_rfl)
theorem e_iyesNo (n) (a0):f_iyesNo n a0 = bif a0 then some ((1:Int),()) else some ((2:Int),()):=by kernel_rfl
def c_iHead_order:TC:=
 (zS [zDk 5 1,[o5 (.a (.t 3)) 7 3],zAa 8] (zS [zEz 9,zIC 10 9 4,zAb 13 2,zEn 14 13,zKv 15 12 14 0 4 1 1,zAk 17 16,zAn 18,zGd 7 7 0 18 17] (zS [zJE 19 5 4,zAb 21 2,zBa 22 7 4,zGe,zIn 24 19,zGf] (zS [zGg 8 2] .ret))))
def s_iHead_order:Sig:=⟨[.mp Ct2,.rd true [.d,.d,.d,.d],.rd false [.d],.tk true Ct14],(.one false [.d])⟩
def E_iHead_order:TEnv:=envOf []
def f_iHead_order (n:Nat):Zt4 × Zt19 × Int × Zt13->Option ((Int) × Int × List Int × List Zt20 × List (List Int) × List Int × Int × Int × Int × Int × Int × Int × Int × List Zt20 × Int × List Zt14):=runFn n E_iHead_order c_iHead_order [Ty3,Ty19,[.i .i64],Ty14] [.i .i64] Ty3 [8] (.mp 0)
def g_iHead_order:=f_iHead_order BIG
def p_iHead_order:TSp:=⟨s_iHead_order,[Ty3,Ty19,[.i .i64],Ty14],[.i .i64],Ty3,Ou.j (.mp 0),g_iHead_order⟩
theorem k_iHead_order:zK E_iHead_order 168 s_iHead_order c_iHead_order 26 (.mp 0) [8]:=by show _=_;kernel_rfl
theorem ok_iHead_order:p_iHead_order.Ok PG 168:=mkOk (env_nil PG) k_iHead_order (by kernel_rfl)
theorem e_iHead_order (n) (a0) (a1) (a2) (a3):f_iHead_order n (a0,a1,a2,a3) = bnd a0.2.2.2.2.1.length (IntKind.wrap .i64 (a2-1)) fun n0=> a0.2.2.2.2.1[n0]?.bind fun y1=> some ((2:Int),(a0.1,a0.2.1,a0.2.2.1,a0.2.2.2.1,a0.2.2.2.2.1,a1.1,a1.2.1,a1.2.2.1,a1.2.2.2,a2,IntKind.wrap .i64 (y1+1),a3.2.1,a3.2.2.1,a3.2.2.2,a0.2.2.2.2.2.2.2.2.2.2.2.2.2.2)):=by kernel_rfl
def c_iedgeOf:TC:=
 (zS [zAm 1,zAv 2 1000000003] (zS [zLd 3 1 2 3 5 1 3 5,[o1 7 (.data .min [.t 4,.t 6])],zIj 8 1 2 8,zIf 10 1 3,[o1 12 (.data .max [.t 9,.t 11])],zGa 13 7 12,zAy 2 2 13] .ret))
def s_iedgeOf:Sig:=⟨[.rd true [.d,.d,.d,.d]],(.one true [.d,.d])⟩
def E_iedgeOf:TEnv:=envOf []
def f_iedgeOf (n:Nat):Zt19->Option (Zt20 × Unit):=runFn n E_iedgeOf c_iedgeOf [Ty19] [.i .i64,.i .i64] [] [2] .no
def g_iedgeOf:=f_iedgeOf BIG
def p_iedgeOf:TSp:=⟨s_iedgeOf,[Ty19],[.i .i64,.i .i64],[],Ou.j .no,g_iedgeOf⟩
theorem k_iedgeOf:zK E_iedgeOf 174 s_iedgeOf c_iedgeOf 14 .no [2]:=by show _=_;kernel_rfl
theorem ok_iedgeOf:p_iedgeOf.Ok PG 174:=mkOk (env_nil PG) k_iedgeOf (by kernel_rfl)
theorem e_iedgeOf (n) (a0):f_iedgeOf n a0 = some (((if a0.2.2.2<a0.2.2.1 then a0.2.2.2 else a0.2.2.1),(if a0.2.2.2 > a0.2.2.1 then a0.2.2.2 else a0.2.2.1)),()):=by kernel_rfl
def c_ihasEdge:TC:=
 (zS [zJp 3 1] (zQ (.join [] 131024 (some [⟨4,[.b],false⟩]) (zS [zIy 7 0 7,zAa 9] (.block 0 (.loop [⟨9,[.i .i64],false⟩] 130640 (zS [zAg 10 9 8] (zQ (zC 10 .skip (.exit 0)) (zQ (.block 1 (zS [zJh 11 7 9 7 2 2,zAv 6 1000000007,zAy 6 6 12] (zS [zAx 13 6 2,zAx 14 3 2,[o1 15 (.eqA [.i,.i] (.t 13) (.t 14) false)]] (zC 15 (zS [zDh 4] .ret) .skip)))) (zR [zAk 16 9,zAb 9 16])))))))) (zS [zBo 4] .ret)))
def s_ihasEdge:Sig:=⟨[.rd false Ct20,.rd true [.d,.d]],(.one false [.d])⟩
def E_ihasEdge:TEnv:=envOf []
def f_ihasEdge (n:Nat):(List Zt20) × Zt20->Option ((Bool) × Unit):=runFn n E_ihasEdge c_ihasEdge [[.sl [.i .i64,.i .i64]],[.i .i64,.i .i64]] [.b] [] [4] .no
def g_ihasEdge:=f_ihasEdge BIG
def p_ihasEdge:TSp:=⟨s_ihasEdge,[[.sl [.i .i64,.i .i64]],[.i .i64,.i .i64]],[.b],[],Ou.j .no,g_ihasEdge⟩
theorem k_ihasEdge:zK E_ihasEdge 124 s_ihasEdge c_ihasEdge 17 .no [4]:=by show _=_;kernel_rfl
theorem ok_ihasEdge:p_ihasEdge.Ok PG 124:=mkOk (env_nil PG) k_ihasEdge (by kernel_rfl)
theorem e_ihasEdge (n) (a0) (a1):f_ihasEdge n (a0,a1) = (loopT n (X:=Int) (B:=(Unit) ⊕ (Bool)) (fun self1 x0=> bif decide (x0<(a0.length:Int)) then bnd a0.length x0 fun n2=> a0[n2]?.bind fun y3=> bif (decide (y3.1=a1.1)&&(decide (y3.2=a1.2)&&true)) then some (Sum.inr true) else self1 (IntKind.wrap .i64 (x0+1)) else some (Sum.inl ())) (0:Int)).bind fun y=>match y with | .inl x4=> some (false,()) | .inr x4=> some (x4,()):=by kernel_rfl
def c_iwithEdge:TC:=
 (zS [zDk 3 1,zAz 4] (zS [zAa 5] (zQ (.join [⟨5,[.i .i64],false⟩] 1048544 none (.block 0 (.loop [⟨5,[.i .i64],false⟩] 1048544 (zQ (.seq (.join [⟨17,[.b],false⟩] 262080 none (zR [zKs 6 5 0 8,zAg 9 6 8,zKy 10 9 0 4,zBq 12 5 4,zDw 13 11 12 4,zDx 14 11 2 13 2 4,zEr 15 3 2 4,zDy 177 14 15 16 16 4,zBs 10 16 17])) (zC 17 .skip (.exit 0))) (.block 1 (zR [zIo 18 5 5])))))) (zS [zIh 20 0 5,zIh 27 0 5,[o1 22 (.res 20 none (some (.t 21)))],zHx 23 22,zAx 24 3 2,zGb 25 24,zBv 23 25 26 23,[o1 29 (.res 27 (some (.t 28)) none)],zJw 26 29 30 26 4] .ret))))
def s_iwithEdge:Sig:=⟨[.rd false Ct20,.rd true [.d,.d]],(.one false Ct20)⟩
def E_iwithEdge:TEnv:=envOf [(177,p_iahead)]
def f_iwithEdge (n:Nat):(List Zt20) × Zt20->Option ((List Zt20) × Unit):=runFn n E_iwithEdge c_iwithEdge [[.sl [.i .i64,.i .i64]],[.i .i64,.i .i64]] [.sl [.i .i64,.i .i64]] [] [4] .no
def g_iwithEdge:=f_iwithEdge BIG
def p_iwithEdge:TSp:=⟨s_iwithEdge,[[.sl [.i .i64,.i .i64]],[.i .i64,.i .i64]],[.sl [.i .i64,.i .i64]],[],Ou.j .no,g_iwithEdge⟩
theorem k_iwithEdge:zK E_iwithEdge 125 s_iwithEdge c_iwithEdge 31 .no [4]:=by show _=_;kernel_rfl
theorem ok_iwithEdge:p_iwithEdge.Ok PG 125:=mkOk (env_cons ok_iahead (env_nil PG)) k_iwithEdge (by kernel_rfl)
theorem e_iwithEdge (n) (a0) (a1):f_iwithEdge n (a0,a1) = (loopT n (X:=Int) (B:=Int) (fun self1 x0=> (bif decide (x0<(a0.length:Int)) then bnd a0.length x0 fun n2=> a0[n2]?.bind fun y3=> (g_iahead (y3,a1)).bind fun r4=> some r4.1 else some false).bind fun x5=> bif x5 then self1 (IntKind.wrap .i64 (x0+1)) else some x0) (0:Int)).bind fun x6=> bif decide (0<=x6) then bif decide (0<=(Int.toNat x6)/\(Int.toNat x6)<=a0.length) then bif decide ((List.take ((Int.toNat x6)-0) (List.drop 0 a0)).length<=4294967296) then bif decide ((List.take ((Int.toNat x6)-0) (List.drop 0 a0)).length+[a1].length<=4294967296) then bif decide (0<=x6) then bif decide ((Int.toNat x6)<=a0.length/\a0.length<=a0.length) then bif decide (((List.take ((Int.toNat x6)-0) (List.drop 0 a0))++[a1]).length+(List.take (a0.length-(Int.toNat x6)) (List.drop (Int.toNat x6) a0)).length<=4294967296) then some (((List.take ((Int.toNat x6)-0) (List.drop 0 a0))++[a1])++(List.take (a0.length-(Int.toNat x6)) (List.drop (Int.toNat x6) a0)),()) else none else none else none else none else none else none else none:=by kernel_rfl
def c_iwithoutEdge:TC:=
 (zS [zDk 3 1,zAz 4] (zS [zAz 5] (zQ (.join [⟨5,[.sl [.i .i64,.i .i64]],false⟩] 4194208 none (zS [zIy 8 0 8,zAa 10] (.block 0 (.loop [⟨5,[.sl [.i .i64,.i .i64]],false⟩,⟨10,[.i .i64],false⟩] 4193440 (zS [zAg 11 10 9] (zQ (zC 11 .skip (.exit 0)) (zQ (.join [⟨5,[.sl [.i .i64,.i .i64]],false⟩] 2093216 none (.block 1 (zS [zJh 12 8 10 8 2 2,zAv 7 1000000008,zAy 7 7 13] (zS [zAx 14 7 2,zAx 15 3 2,zEc 16 14 15] (zC 16 (zR [zAs 5 17 5,zAx 18 7 2,zLb 19 18 17 17 5]) .skip))))) (zR [zIB 21 10])))))))) (zS [zJb 5 22 5 4] .ret))))
def s_iwithoutEdge:Sig:=⟨[.rd false Ct20,.rd true [.d,.d]],(.one false Ct20)⟩
def E_iwithoutEdge:TEnv:=envOf []
def f_iwithoutEdge (n:Nat):(List Zt20) × Zt20->Option ((List Zt20) × Unit):=runFn n E_iwithoutEdge c_iwithoutEdge [[.sl [.i .i64,.i .i64]],[.i .i64,.i .i64]] [.sl [.i .i64,.i .i64]] [] [4] .no
def g_iwithoutEdge:=f_iwithoutEdge BIG
def p_iwithoutEdge:TSp:=⟨s_iwithoutEdge,[[.sl [.i .i64,.i .i64]],[.i .i64,.i .i64]],[.sl [.i .i64,.i .i64]],[],Ou.j .no,g_iwithoutEdge⟩
theorem k_iwithoutEdge:zK E_iwithoutEdge 172 s_iwithoutEdge c_iwithoutEdge 23 .no [4]:=by show _=_;kernel_rfl
theorem ok_iwithoutEdge:p_iwithoutEdge.Ok PG 172:=mkOk (env_nil PG) k_iwithoutEdge (by kernel_rfl)
theorem e_iwithoutEdge (n) (a0) (a1):f_iwithoutEdge n (a0,a1) = (loopT n (X:=(List Zt20) × Int) (B:=(List Zt20)) (fun self1 x0=> bif decide (x0.2<(a0.length:Int)) then (bnd a0.length x0.2 fun n2=> a0[n2]?.bind fun y3=> bif !(decide (y3.1=a1.1)&&(decide (y3.2=a1.2)&&true)) then bif decide (x0.1.length+[y3].length<=4294967296) then some (x0.1++[y3]) else none else some x0.1:Option ((List Zt20))).bind fun x4=> self1 (x4,IntKind.wrap .i64 (x0.2+1)) else some x0.1) ([],(0:Int))).bind fun x5=> some (x5,()):=by kernel_rfl
def c_iHead_edge:TC:=
 (zS [zDk 3 1,zAa 4] (zS [zLe 7 3 4 174 7,zAv 5 1000000006,zAy 5 5 8] (zS [zEz 9,zIC 10 9 2,zJs 13 5 2 124 12,zAb 6 14] (zQ (.join [⟨0,Ty3,false⟩] 10633823966279326983230456482242727953 (some [⟨4,[.i .i64],false⟩,⟨0,Ty3,false⟩]) (.block 0 (zQ (.join [⟨15,[.b],false⟩] 274877874176 none (zR [zEz 16,zEz 24,zIC 17 16 1,zIf 20 5 0,zKv 22 19 21 0 1 1 1,zIC 25 24 1,zIf 28 5 1,zKv 30 27 29 0 1 1 1,zEb 32 23 31,zAb 33 32,zIs 34 17 3 1,zHa 36 35 1 17,zJe 33 36 37 15])) (zC 15 (zS [zEz 38,zEz 40,zGr 1000000002 3 4 39 39,zHC 40 41 41,zHD 41 42 42,zHE 42 43 43,zID 1000000002 44 44 5 0,zGu 43 45 46 46,zGv 0 1 46 47 47,zAx 48 5 2,zGb 49 48,zGD 1 49 50 49 50,[⟨false,[],[],.call 3 168 [.t 0,.t 39,.t 47,.t 50] (.mp 0),[51,0,50,12,19,22,27,30,46,43],(some 51),none⟩],zAb 4 51] .ret) (zS [zEz 53,zEz 61,zIC 54 53 1,zIf 57 5 0,zKv 59 56 58 0 1 1 1,zIC 62 61 1,zIf 65 5 1,zKv 67 64 66 0 1 1 1,zEb 69 60 68,zAb 52 69] (zC 52 (zS [zEz 70,zEz 72,zGr 1000000002 3 4 71 71,zHC 72 73 73,zHD 73 74 74,zHE 74 75 75,zID 1000000002 76 76 5 0,zGu 75 77 78 78,zGv 0 1 78 79 79,zAx 80 5 2,zGb 81 80,zGD 2 81 82 81 82,[⟨false,[],[],.call 3 168 [.t 0,.t 71,.t 79,.t 82] (.mp 0),[83,0,82,12,19,22,27,30,56,59,64,67,78,75],(some 83),none⟩],zAb 4 83] .ret) (zQ (.join [⟨84,[.b],false⟩] 4932417344027687032801198080 none (zR [zJy 85 3 1 1,zKy 88 87 6 3,zDz 90 89 3,zJe 88 90 91 84])) (zC 84 (zS [zEz 92,zKr 93 2,zJs 97 5 2 125 96,zIn 99 92,zIa 98 96 100 98] (zS [zJE 101 3 4,zGi 120 102 1 103 103,zAb 4 103] .ret)) (zQ (.join [⟨104,[.b],false⟩] 2575866019663762143841300913324032 none (zR [zJy 105 3 1 2,zKy 108 107 6 3,zJe 108 109 110 104])) (zC 104 (zS [zEz 111,zKr 112 2,zJs 116 5 2 172 115,zIn 118 111,zIa 117 115 119 117] (zS [zJE 120 3 4,zGi 120 121 1 122 122,zAb 4 122] .ret)) .skip)))))))))) (zS [zJE 123 3 4,[⟨false,[],[],.call 2 120 [.t 0,.t 124,kO 2] (.mp 0),[125,0,12,19,22,27,30,56,59,64,67],(some 125),none⟩],zAb 4 125] .ret)))))
def s_iHead_edge:Sig:=⟨[.mp Ct2,.rd true [.d,.d,.d,.d]],(.one false [.d])⟩
def E_iHead_edge:TEnv:=envOf [(174,p_iedgeOf),(124,p_ihasEdge),(168,p_iHead_order),(125,p_iwithEdge),(120,p_iHead_say),(172,p_iwithoutEdge)]
def f_iHead_edge (n:Nat):Zt4 × Zt19->Option ((Int) × Int × List Int × List Zt20 × List (List Int) × List Int × Int × Int × Int × Int × Int × Int × Int × List Zt20 × Int × List Zt14):=runFn n E_iHead_edge c_iHead_edge [Ty3,Ty19] [.i .i64] Ty3 [4] (.mp 0)
def g_iHead_edge:=f_iHead_edge BIG
def p_iHead_edge:TSp:=⟨s_iHead_edge,[Ty3,Ty19],[.i .i64],Ty3,Ou.j (.mp 0),g_iHead_edge⟩
theorem k_iHead_edge:zK E_iHead_edge 169 s_iHead_edge c_iHead_edge 126 (.mp 0) [4]:=by show _=_;kernel_rfl
theorem ok_iHead_edge:p_iHead_edge.Ok PG 169:=mkOk (env_cons ok_iedgeOf (env_cons ok_ihasEdge (env_cons ok_iHead_order (env_cons ok_iwithEdge (env_cons ok_iHead_say (env_cons ok_iwithoutEdge (env_nil PG))))))) k_iHead_edge (by kernel_rfl)
theorem e_iHead_edge (n) (a0) (a1):f_iHead_edge n (a0,a1) = (g_iedgeOf a1).bind fun r0=> (g_ihasEdge (a0.2.2.1,r0.1)).bind fun r1=> ((bnd a0.2.1.length r0.1.1 fun n2=> a0.2.1[n2]?.bind fun y3=> bnd a0.2.1.length r0.1.2 fun n4=> a0.2.1[n4]?.bind fun y5=> bif decide (y3=y5) then some (decide (a1.2.1=1)) else some false).bind fun x6=> bif x6 then bnd a0.2.1.length r0.1.1 fun n7=> a0.2.1[n7]?.bind fun y8=> (g_iHead_order (a0,a1,y8,((0:Int),(1:Int),[r0.1],(0:Int)))).bind fun r9=> some (Sum.inr (r9.1,r9.2)) else bnd a0.2.1.length r0.1.1 fun n10=> a0.2.1[n10]?.bind fun y11=> bnd a0.2.1.length r0.1.2 fun n12=> a0.2.1[n12]?.bind fun y13=> bif decide (y11=y13) then bnd a0.2.1.length r0.1.1 fun n14=> a0.2.1[n14]?.bind fun y15=> (g_iHead_order (a0,a1,y15,((0:Int),(2:Int),[r0.1],(0:Int)))).bind fun r16=> some (Sum.inr (r16.1,r16.2)) else (bif decide (a1.2.1=1) then some !r1.1 else some false).bind fun x17=> bif x17 then (g_iwithEdge (a0.2.2.1,r0.1)).bind fun r18=> (g_iHead_say ((a0.1,a0.2.1,r18.1,a0.2.2.2),a1,(1:Int))).bind fun r19=> some (Sum.inr (r19.1,r19.2)) else (bif decide (a1.2.1=2) then some r1.1 else some false).bind fun x20=> bif x20 then (g_iwithoutEdge (a0.2.2.1,r0.1)).bind fun r21=> (g_iHead_say ((a0.1,a0.2.1,r21.1,a0.2.2.2),a1,(1:Int))).bind fun r22=> some (Sum.inr (r22.1,r22.2)) else some (Sum.inl a0)).bind fun y=>match y with | .inl x23=> (g_iHead_say (x23,a1,(2:Int))).bind fun r24=> some (r24.1,r24.2) | .inr x23=> some (x23.1,x23.2):=by kernel_rfl
def c_iHead_take:TC:=
 (zS [zDk 3 1,zAa 4] (zQ (.join [⟨0,Ty3,false⟩] 618970019642690137449562097 (some [⟨4,[.i .i64],false⟩,⟨0,Ty3,false⟩]) (.block 0 (zS [zEz 8,zEA 9 8,[o1 10 (.load 0 [] 0 (.t 9) 15 true)],zJs 11 3 4 167 10,zAb 7 12] (zC 7 (zS [zJE 13 3 4,zIb 14 3 15 10 15,zAb 4 15] .ret) (zS [zJy 17 3 1 3,zAb 16 19] (zC 16 (zS [zEz 21,zEz 25,zEz 29,zIn 22 21,zAo 24 0 0 23,zIC 26 25 3,zIC 30 29 2,zGn 33 75 24 28 32,zJA 33 20 33 1 1,zAs 34 5 34,zAb 6 35] (zS [zEz 36,zAt 38 5,zAt 43 5,zAx 37 3 4,zIf 39 3 2,zJh 41 38 40 5 1 1,zIf 44 3 3,zJh 46 43 45 5 1 1,zEb 48 42 47,zAA 49 121 48,[⟨false,[],[],.call 2 120 [.t 0,.t 37,.t 49] (.mp 0),[50,0,10,28,32],(some 50),none⟩],zAb 4 50] .ret)) (zQ (.join [⟨51,[.b],false⟩] 295145653379539140608 none (zR [zJy 52 3 1 4,zAb 55 54,[o2 56 (.p0) 3 true,o2 57 (.same 56) 3 true],zEo 58 57 3,zHt 59 0 1 58 3,zIA 60 3 3 2 3,zDw 62 59 61 3,[o2 63 (.load 0 [(1,1)] 0 (.t 62) 1 false) 3 true],zIA 64 3 3 3 3,zEd 66 63 65 3,zJe 55 66 67 51])) (zC 51 (zS [zJE 68 3 4,zIb 69 2 70 10 70,zAb 4 70] .ret) (zS [zJy 72 3 1 4,zAb 71 74] (zC 71 (zS [zEz 75,zEz 77,zGr 1000000002 3 4 76 76,zHC 77 78 78,zHD 78 79 79,zHE 79 80 80,zID 1000000002 81 81 3 2,zGu 80 82 83 83,zGv 0 1 83 84 84,zIf 85 3 2,zGw 86 87,[⟨false,[],[],.call 3 168 [.t 0,.t 76,.t 84,.t 87] (.mp 0),[88,0,87,10,83,80],(some 88),none⟩],zAb 4 88] .ret) .skip)))))))))) (zS [zJE 89 3 4,[⟨false,[],[],.call 2 169 [.t 0,.t 90] (.mp 0),[91,0,10],(some 91),none⟩],zAb 4 91] .ret)))
def s_iHead_take:Sig:=⟨[.mp Ct2,.rd true [.d,.d,.d,.d]],(.one false [.d])⟩
def E_iHead_take:TEnv:=envOf [(167,p_ibadAsk),(120,p_iHead_say),(75,p_iWholeLabels),(121,p_iyesNo),(168,p_iHead_order),(169,p_iHead_edge)]
def f_iHead_take (n:Nat):Zt4 × Zt19->Option ((Int) × Int × List Int × List Zt20 × List (List Int) × List Int × Int × Int × Int × Int × Int × Int × Int × List Zt20 × Int × List Zt14):=runFn n E_iHead_take c_iHead_take [Ty3,Ty19] [.i .i64] Ty3 [4] (.mp 0)
def g_iHead_take:=f_iHead_take BIG
def p_iHead_take:TSp:=⟨s_iHead_take,[Ty3,Ty19],[.i .i64],Ty3,Ou.j (.mp 0),g_iHead_take⟩
theorem k_iHead_take:zK E_iHead_take 117 s_iHead_take c_iHead_take 92 (.mp 0) [4]:=by show _=_;kernel_rfl
theorem ok_iHead_take:p_iHead_take.Ok PG 117:=mkOk (env_cons ok_ibadAsk (env_cons ok_iHead_say (env_cons ok_iWholeLabels (env_cons ok_iyesNo (env_cons ok_iHead_order (env_cons ok_iHead_edge (env_nil PG))))))) k_iHead_take (by kernel_rfl)
theorem e_iHead_take (n) (a0) (a1):f_iHead_take n (a0,a1) = ((g_ibadAsk (a0,a1)).bind fun r0=> bif r0.1 then (g_iHead_say (a0,a1,(3:Int))).bind fun r1=> some (Sum.inr (r1.1,r1.2)) else bif decide (a1.2.1=3) then (g_iWholeLabels (a0.1,a0.2.2.2.1,a0.2.2.1)).bind fun r2=> bnd r2.1.1.length a1.2.2.1 fun n3=> r2.1.1[n3]?.bind fun y4=> bnd r2.1.1.length a1.2.2.2 fun n5=> r2.1.1[n5]?.bind fun y6=> (g_iyesNo (decide (y4=y6))).bind fun r7=> (g_iHead_say (a0,a1,r7.1)).bind fun r8=> some (Sum.inr (r8.1,r8.2)) else (bif decide (a1.2.1=4) then bnd a0.2.1.length a1.2.2.1 fun n9=> a0.2.1[n9]?.bind fun y10=> some (decide (y10=a1.2.2.2)) else some false).bind fun x11=> bif x11 then (g_iHead_say (a0,a1,(2:Int))).bind fun r12=> some (Sum.inr (r12.1,r12.2)) else bif decide (a1.2.1=4) then bnd a0.2.1.length a1.2.2.1 fun n13=> a0.2.1[n13]?.bind fun y14=> (g_iHead_order (a0,a1,y14,((0:Int),(3:Int),[],a1.2.2.1))).bind fun r15=> some (Sum.inr (r15.1,r15.2)) else some (Sum.inl a0):Option ((Zt4) ⊕ Zt1)).bind fun y=>match y with | .inl x16=> (g_iHead_edge (x16,a1)).bind fun r17=> some (r17.1,r17.2) | .inr x16=> some (x16.1,x16.2):=by kernel_rfl
def c_iTake:TC:=
 (zS [zAm 2,zDk 3 1,zBe 4 1000000005,zAa 5] (zS [zLe 8 2 15 115 8,zBe 6 1000000007,zDa 6 9 6 9] (zQ (.seq (.join [⟨36,[.b],false⟩] 137438952448 none (zR [zJi 10 2 15 116,zJk 12 11,zIq 14 3 3 0 3,zKt 113 15 100000 16 16 3 3 13,zIq 20 9 2 14 9,zIq 22 9 3 0 9,zEh 69 21 23 24 24 9,zGj 25 24 0 9,zBD 19 25 26,zAb 27 26,zEx 28 2 15 17,zGk 74 28 29 29 17,zBD 27 29 30,zAb 31 30,zKq 32 21 2 14,zGj 35 34 80 21,zBD 31 35 36])) (zC 36 (zS [zIm 37 6 15 4 4 6,zAa 5] .ret) .skip)) (zS [zAx 38 3 4,zGy 117 38 39 39,zAb 7 39] (zS [zBa 40 6 15,zAb 41 7,zBb 40 4 40 4 40 40 6,zAb 5 41] .ret)))))
def s_iTake:Sig:=⟨[.rd true Ct2,.rd true [.d,.d,.d,.d]],(.tup [(true,15),(false,1)] Ct1)⟩
def E_iTake:TEnv:=envOf [(115,p_icopyHead),(116,p_iHeadOk),(113,p_iin),(69,p_isaidAt),(74,p_iBusy),(117,p_iHead_take)]
def f_iTake (n:Nat):Zt4 × Zt19->Option (Zt3 × Unit):=runFn n E_iTake c_iTake [Ty3,Ty19] Ty1 [] [4,5] .no
def g_iTake:=f_iTake BIG
def p_iTake:TSp:=⟨s_iTake,[Ty3,Ty19],Ty1,[],Ou.j .no,g_iTake⟩
theorem k_iTake:zK E_iTake 66 s_iTake c_iTake 42 .no [4,5]:=by show _=_;kernel_rfl
theorem ok_iTake:p_iTake.Ok PG 66:=mkOk (env_cons ok_icopyHead (env_cons ok_iHeadOk (env_cons ok_iin (env_cons ok_isaidAt (env_cons ok_iBusy (env_cons ok_iHead_take (env_nil PG))))))) k_iTake (by kernel_rfl)
theorem e_iTake (n) (a0) (a1):f_iTake n (a0,a1) = (g_icopyHead a0).bind fun r0=> ((g_iHeadOk a0).bind fun r1=> bif !r1.1 then some true else (g_iin (a1.1,(1:Int),(100000:Int))).bind fun r2=> bif !r2.1 then some true else (g_isaidAt (a0.2.2.2.2.2.2.2.2.2.2.2.2.2.2,a1.1)).bind fun r3=> bif decide (0<=r3.1) then some true else (g_iBusy a0).bind fun r4=> bif r4.1 then some true else some (decide (80<=(a0.2.2.2.2.2.2.2.2.2.2.2.2.2.2.length:Int)))).bind fun x5=> bif x5 then some ((r0.1.1,r0.1.2.1,r0.1.2.2.1,r0.1.2.2.2.1,r0.1.2.2.2.2.1,r0.1.2.2.2.2.2.1,r0.1.2.2.2.2.2.2.1,r0.1.2.2.2.2.2.2.2.1,r0.1.2.2.2.2.2.2.2.2.1,r0.1.2.2.2.2.2.2.2.2.2.1,r0.1.2.2.2.2.2.2.2.2.2.2.1,r0.1.2.2.2.2.2.2.2.2.2.2.2.1,r0.1.2.2.2.2.2.2.2.2.2.2.2.2.1,r0.1.2.2.2.2.2.2.2.2.2.2.2.2.2.1,r0.1.2.2.2.2.2.2.2.2.2.2.2.2.2.2,(0:Int)),()) else (g_iHead_take (r0.1,a1)).bind fun r6=> some ((r6.2.1,r6.2.2.1,r6.2.2.2.1,r6.2.2.2.2.1,r6.2.2.2.2.2.1,r6.2.2.2.2.2.2.1,r6.2.2.2.2.2.2.2.1,r6.2.2.2.2.2.2.2.2.1,r6.2.2.2.2.2.2.2.2.2.1,r6.2.2.2.2.2.2.2.2.2.2.1,r6.2.2.2.2.2.2.2.2.2.2.2.1,r6.2.2.2.2.2.2.2.2.2.2.2.2.1,r6.2.2.2.2.2.2.2.2.2.2.2.2.2.1,r6.2.2.2.2.2.2.2.2.2.2.2.2.2.2.1,r6.2.2.2.2.2.2.2.2.2.2.2.2.2.2.2,r6.1),()):=by kernel_rfl
def c_iAnswerOk:TC:=
 (zS [zJp 3 1] (zQ (.join [⟨4,[.b],false⟩] 16777200 none (zR [zAb 5 0,zBy 6 113 5 12,zAb 7 6,zDm 8 2,zDn 9 3 0 8 2,zEu 113 9 10 10 2,zIx 7 10 11,zBq 13 0 7,zIA 14 7 3 2 7,zDy 170 13 15 16 16 7,zIx 12 16 17,zBq 19 0 13,zIs 20 13 3 3,zDy 163 19 21 22 22 13,zJe 18 22 23 4])) .ret))
def s_iAnswerOk:Sig:=⟨[.rd false [.d],.rd true Ct7],(.one false [.d])⟩
def E_iAnswerOk:TEnv:=envOf [(113,p_iin),(170,p_iedgesOk),(163,p_ilabelsOk)]
def f_iAnswerOk (n:Nat):Int × Zt10->Option ((Bool) × Unit):=runFn n E_iAnswerOk c_iAnswerOk [[.i .i64],Ty13] [.b] [] [4] .no
def g_iAnswerOk:=f_iAnswerOk BIG
def p_iAnswerOk:TSp:=⟨s_iAnswerOk,[[.i .i64],Ty13],[.b],[],Ou.j .no,g_iAnswerOk⟩
theorem k_iAnswerOk:zK E_iAnswerOk 118 s_iAnswerOk c_iAnswerOk 24 .no [4]:=by show _=_;kernel_rfl
theorem ok_iAnswerOk:p_iAnswerOk.Ok PG 118:=mkOk (env_cons ok_iin (env_cons ok_iedgesOk (env_cons ok_ilabelsOk (env_nil PG)))) k_iAnswerOk (by kernel_rfl)
theorem e_iAnswerOk (n) (a0) (a1):f_iAnswerOk n (a0,a1) = ((g_iin (a0,(1:Int),(12:Int))).bind fun r0=> bif r0.1 then (g_iin (a1.1,(1:Int),(100000:Int))).bind fun r1=> bif r1.1 then (g_iedgesOk (a0,a1.2.2.1)).bind fun r2=> bif r2.1 then (g_ilabelsOk (a0,a1.2.2.2)).bind fun r3=> some r3.1 else some false else some false else some false).bind fun x4=> some (x4,()):=by kernel_rfl
def c_iowns:TC:=
 (zS [zBo 6] (zQ (.join [⟨6,[.b],false⟩] 1048512 none (zR [zKs 7 1 0 9,zEn 10 9,zDC 11 113 7 10,zKy 12 11 0 5,zBq 14 1 5,zDw 15 13 14 5,zEp 16 13 1 15 5,zBq 17 2 5,zEd 18 16 17 5,zJe 12 18 19 6])) .ret))
def s_iowns:Sig:=⟨[.rd false Ct21,.rd false [.d],.rd false [.d]],(.one false [.d])⟩
def E_iowns:TEnv:=envOf [(113,p_iin)]
def f_iowns (n:Nat):List Int × Int × Int->Option ((Bool) × Unit):=runFn n E_iowns c_iowns [[.sl [.i .i64]],[.i .i64],[.i .i64]] [.b] [] [6] .no
def g_iowns:=f_iowns BIG
def p_iowns:TSp:=⟨s_iowns,[[.sl [.i .i64]],[.i .i64],[.i .i64]],[.b],[],Ou.j .no,g_iowns⟩
theorem k_iowns:zK E_iowns 73 s_iowns c_iowns 20 .no [6]:=by show _=_;kernel_rfl
theorem ok_iowns:p_iowns.Ok PG 73:=mkOk (env_cons ok_iin (env_nil PG)) k_iowns (by kernel_rfl)
theorem e_iowns (n) (a0) (a1) (a2):f_iowns n (a0,a1,a2) = ((g_iin (a1,(0:Int),IntKind.wrap .i64 ((a0.length:Int)-1))).bind fun r0=> bif r0.1 then bnd a0.length a1 fun n1=> a0[n1]?.bind fun y2=> some (decide (y2=a2)) else some false).bind fun x3=> some (x3,()):=by kernel_rfl
def c_iInside:TC:=
 (zS [zAz 6] (zS [zAz 7] (zQ (.join [⟨7,[.sl [.i .i64,.i .i64]],false⟩] 8589934208 none (zS [zKm 10 1] (.block 0 (.loop [⟨7,[.sl [.i .i64,.i .i64]],false⟩,⟨12,[.i .i64],false⟩] 8589931136 (zS [zAg 13 12 11] (zQ (zC 13 .skip (.exit 0)) (zQ (.join [⟨7,[.sl [.i .i64,.i .i64]],false⟩] 4294951552 none (.block 1 (zS [zIg 14 10 12 2 2,zAv 9 1000000010,zAy 9 9 15] (zQ (.join [⟨27,[.b],false⟩] 268369920 none (zR [zAb 16 0,zIf 17 9 0,zAb 19 2,zGn 20 73 16 18 19,zKy 21 20 0 5,zIA 23 5 9 1 5,zBq 25 2 5,zHq 73 22 24 25 26 26 5,zBs 21 26 27])) (zC 27 (zR [zAs 7 28 7,zAx 29 9 2,zLb 30 29 28 28 7]) .skip))))) (zR [zIB 32 12])))))))) (zS [zJb 7 33 7 6] .ret))))
def s_iInside:Sig:=⟨[.rd false Ct21,.rd false Ct20,.rd false [.d]],(.one false Ct20)⟩
def E_iInside:TEnv:=envOf [(73,p_iowns)]
def f_iInside (n:Nat):List Int × (List Zt20) × Int->Option ((List Zt20) × Unit):=runFn n E_iInside c_iInside [[.sl [.i .i64]],[.sl [.i .i64,.i .i64]],[.i .i64]] [.sl [.i .i64,.i .i64]] [] [6] .no
def g_iInside:=f_iInside BIG
def p_iInside:TSp:=⟨s_iInside,[[.sl [.i .i64]],[.sl [.i .i64,.i .i64]],[.i .i64]],[.sl [.i .i64,.i .i64]],[],Ou.j .no,g_iInside⟩
theorem k_iInside:zK E_iInside 171 s_iInside c_iInside 34 .no [6]:=by show _=_;kernel_rfl
theorem ok_iInside:p_iInside.Ok PG 171:=mkOk (env_cons ok_iowns (env_nil PG)) k_iInside (by kernel_rfl)
theorem e_iInside (n) (a0) (a1) (a2):f_iInside n (a0,a1,a2) = (loopT n (X:=(List Zt20) × Int) (B:=(List Zt20)) (fun self1 x0=> bif decide (x0.2<(a1.length:Int)) then (bnd a1.length x0.2 fun n2=> a1[n2]?.bind fun y3=> ((g_iowns (a0,y3.1,a2)).bind fun r4=> bif r4.1 then (g_iowns (a0,y3.2,a2)).bind fun r5=> some r5.1 else some false).bind fun x6=> bif x6 then bif decide (x0.1.length+[y3].length<=4294967296) then some (x0.1++[y3]) else none else some x0.1:Option ((List Zt20))).bind fun x7=> self1 (x7,IntKind.wrap .i64 (x0.2+1)) else some x0.1) ([],(0:Int))).bind fun x8=> some (x8,()):=by kernel_rfl
def c_iHead_released:TC:=
 (zS [zDk 4 1,zAa 6] (zQ (.join [⟨0,Ty3,false⟩] 1073725761 (some [⟨6,[.i .i64],false⟩,⟨0,Ty3,false⟩]) (zS [zKm 14 2] (.block 0 (.loop [⟨0,Ty3,false⟩,⟨16,[.i .i64],false⟩] 1073676609 (zS [zAg 17 16 15] (zQ (zC 17 .skip (.exit 0)) (zQ (.block 1 (zS [zIg 18 14 16 2 2,zAv 8 1000000009,zAy 8 8 19] (zS [zKr 20 2,zJs 24 8 2 124 23] (zC 25 (zS [zJE 26 4 4,zIb 27 3 28 23 28,zAb 6 28] .ret) .skip)))) (zR [zIB 29 16])))))))) (zQ (.seq (.join [⟨49,[.b],false⟩] 1125898833100800 none (zR [zEz 32,zIf 30 4 2,zIn 33 32,zAo 35 0 0 34,zEn 36 35,zDC 37 113 31 36,zJk 38 37,zIq 40 9 4 3 9,[o2 42 (.p0) 9 false,o2 43 (.same 42) 9 false],zGE 44 43 9,[o2 45 (.load 0 [] 3 (.t 44) 1 true) 9 false],zEv 46 45 9,zEk 113 41 1 46 47 47 9,zIt 48 47 9 39])) (zC 49 (zS [zJE 50 4 4,zGi 120 51 3 52 52,zAb 6 52] .ret) .skip)) (zQ (.join [⟨0,Ty3,false⟩] 590286803159450911745 none (zS [zKm 53 2] (.block 2 (.loop [⟨0,Ty3,false⟩,⟨55,[.i .i64],false⟩] 590259781561686688769 (zS [zAg 56 55 54] (zQ (zC 56 .skip (.exit 2)) (zQ (.block 3 (zS [zIg 57 53 55 2 2,zAv 10 1000000011,zAy 10 10 58] (zR [zEz 59,zKr 60 2,zJs 64 10 2 125 63,zIn 66 59,zDd 0 65 63 0 2 67 65]))) (zR [zIB 68 55])))))))) (zS [zKr 69 1,zIv 73 4 2 4 3,zAh 77 72 74,zGB 0 72 0 1 1 77 76] (zS [zEz 78,zEz 82,zIC 79 78 1,zIC 83 82 2,zIf 86 4 3,zGn 88 171 81 85 87,zAs 88 11 88] (zQ (zS [zAt 89 11,zAc 90 89,zEi 91 90 0] (zC 91 (zS [zJE 92 4 4,[⟨false,[],[],.call 2 120 [.t 0,.t 93,kO 1] (.mp 0),[94,0,77,81,85],(some 94),none⟩],zAb 6 94] .ret) .skip)) (zQ (.join [⟨0,Ty3,false⟩] 2596108815186156682096451392643073 none (zS [zAt 95 11,zAc 96 95,zAa 97] (.block 4 (.loop [⟨0,Ty3,false⟩,⟨97,[.i .i64],false⟩] 2595990014196978879939281663565825 (zS [zAg 98 97 96] (zQ (zC 98 .skip (.exit 4)) (zQ (.block 5 (zS [zJh 99 95 97 11 2 2,zAv 13 1000000014,zAy 13 13 100] (zR [zEz 101,zKr 102 2,zJs 106 13 2 172 105,zIn 108 101,zDd 0 107 105 0 2 109 107]))) (zR [zIB 110 97])))))))) (zS [zJE 111 4 4,zIf 113 4 3,zGC 11 115 11 89 95 115,zGD 4 115 116 115 116,zGx 168 0 112 114 116 117 0 116 117,zAb 6 117] .ret)))))))))
def s_iHead_released:Sig:=⟨[.mp Ct2,.rd true [.d,.d,.d,.d],.rd false Ct20],(.one false [.d])⟩
def E_iHead_released:TEnv:=envOf [(124,p_ihasEdge),(120,p_iHead_say),(113,p_iin),(125,p_iwithEdge),(171,p_iInside),(172,p_iwithoutEdge),(168,p_iHead_order)]
def f_iHead_released (n:Nat):Zt4 × Zt19 × (List Zt20)->Option ((Int) × Int × List Int × List Zt20 × List (List Int) × List Int × Int × Int × Int × Int × Int × Int × Int × List Zt20 × Int × List Zt14):=runFn n E_iHead_released c_iHead_released [Ty3,Ty19,[.sl [.i .i64,.i .i64]]] [.i .i64] Ty3 [6] (.mp 0)
def g_iHead_released:=f_iHead_released BIG
def p_iHead_released:TSp:=⟨s_iHead_released,[Ty3,Ty19,[.sl [.i .i64,.i .i64]]],[.i .i64],Ty3,Ou.j (.mp 0),g_iHead_released⟩
theorem k_iHead_released:zK E_iHead_released 122 s_iHead_released c_iHead_released 118 (.mp 0) [6]:=by show _=_;kernel_rfl
theorem ok_iHead_released:p_iHead_released.Ok PG 122:=mkOk (env_cons ok_ihasEdge (env_cons ok_iHead_say (env_cons ok_iin (env_cons ok_iwithEdge (env_cons ok_iInside (env_cons ok_iwithoutEdge (env_cons ok_iHead_order (env_nil PG)))))))) k_iHead_released (by kernel_rfl)
theorem e_iHead_released (n) (a0) (a1) (a2):f_iHead_released n (a0,a1,a2) = (loopT n (X:=Zt4 × Int) (B:=(Zt4) ⊕ Zt1) (fun self1 x0=> bif decide (x0.2<(a2.length:Int)) then bnd a2.length x0.2 fun n2=> a2[n2]?.bind fun y3=> (g_ihasEdge (x0.1.2.2.1,y3)).bind fun r4=> bif r4.1 then (g_iHead_say (x0.1,a1,(3:Int))).bind fun r5=> some (Sum.inr (r5.1,r5.2)) else self1 (x0.1,IntKind.wrap .i64 (x0.2+1)) else some (Sum.inl x0.1)) (a0,(0:Int))).bind fun y=>match y with | .inl x6=> ((g_iin (a1.2.2.1,(0:Int),IntKind.wrap .i64 (x6.1-1))).bind fun r7=> bif !r7.1 then some true else (g_iin (a1.2.2.2,(1:Int),(x6.2.2.2.1.length:Int))).bind fun r8=> some !r8.1).bind fun x9=> bif x9 then (g_iHead_say (x6,a1,(3:Int))).bind fun r10=> some (r10.1,r10.2) else (loopT n (X:=Zt4 × Int) (B:=Zt4) (fun self12 x11=> bif decide (x11.2<(a2.length:Int)) then bnd a2.length x11.2 fun n13=> a2[n13]?.bind fun y14=> (g_iwithEdge (x11.1.2.2.1,y14)).bind fun r15=> self12 ((x11.1.1,x11.1.2.1,r15.1,x11.1.2.2.2),IntKind.wrap .i64 (x11.2+1)) else some x11.1) (x6,(0:Int))).bind fun x16=> bnd x16.2.1.length a1.2.2.1 fun n17=> x16.2.1[n17]?.bind fun y18=> (g_iInside (x16.2.1.set n17 a1.2.2.2,x16.2.2.1,a1.2.2.2)).bind fun r19=> bif decide ((r19.1.length:Int)=0) then (g_iHead_say ((x16.1,x16.2.1.set n17 a1.2.2.2,x16.2.2),a1,(1:Int))).bind fun r20=> some (r20.1,r20.2) else (loopT n (X:=Zt4 × Int) (B:=Zt4) (fun self22 x21=> bif decide (x21.2<(r19.1.length:Int)) then bnd r19.1.length x21.2 fun n23=> r19.1[n23]?.bind fun y24=> (g_iwithoutEdge (x21.1.2.2.1,y24)).bind fun r25=> self22 ((x21.1.1,x21.1.2.1,r25.1,x21.1.2.2.2),IntKind.wrap .i64 (x21.2+1)) else some x21.1) ((x16.1,x16.2.1.set n17 a1.2.2.2,x16.2.2),(0:Int))).bind fun x26=> (g_iHead_order (x26,a1,a1.2.2.2,((0:Int),(4:Int),r19.1,(0:Int)))).bind fun r27=> some (r27.1,r27.2) | .inr x6=> some (x6.1,x6.2):=by kernel_rfl
def c_iHear:TC:=
 (zS [zAm 3,zDk 5 2,zBe 6 1000000007,zAa 7] (zS [zJi 11 3 15 115,zBe 8 1000000009,zDa 8 12 8 12] (zQ (.seq (.join [⟨43,[.b],false⟩] 17592186036224 none (zR [zJi 13 3 15 116,zJk 15 14,zIq 17 3 3 0 3,zKD 19 5 4 3 118 18 3,zJg 21 20 3 16,zEx 24 3 15 10,zGk 74 24 25 25 10,zJg 26 25 10 23,zBA 29 1 15,zDr 30 15,zGE 31 30 15,zDs 32 3 9 31 15,zJx 33 29 32 15 28,zAb 35 34,zIw 36 22 5 0,zDr 38 22,zGE 39 38 22,zGE 40 39 22,zDs 41 3 10 40 22,zJx 42 37 41 22 35])) (zC 43 (zS [zIm 44 8 15 6 6 8,zAa 7] .ret) .skip)) (zS [zAn 45,[o1 46 (.load 8 [] 5 (.t 45) 9 true)],zBc 9 1000000010,zBb 46 9 46 9 46 46 8] (zS [zEE 47,zAn 48,zDi 8 47 8 5 48 47] (zS [zJD 49 8 4,zAb 51 1,zEn 52 51,zIf 53 5 0,zAh 55 50 52,zGB 8 50 8 4 1 55 54] (zS [zAb 58 1,zJD 56 8 3,zEn 59 58,zIf 60 5 3,zAA 62 119 61,zAh 63 57 59,[o4 2 [8,62,45,48,49,55,63,57,56] (.store 8 [(3,1)] 0 (.t 63) (.t 62))]] (zS [zAa 10] (zQ (.join [⟨8,Ty3,false⟩,⟨10,[.i .i64],false⟩] 309484991374600995015230720 none (.block 0 (zS [zJt 68 9 1,zEy 71 70 4,zAb 67 71] (zC 67 (zR [zIu 72 9 0 4,zIf 74 5 1,zAA 76 121 75,zGq 120 8 73 76 77 8 77,zAb 10 77]) (zS [zJt 79 9 6,zEi 82 81 3,zAb 78 82] (zC 78 (zR [zIu 83 9 0 4,zIf 85 5 2,zGq 122 8 84 86 87 8 87,zAb 10 87]) (zR [zIu 64 9 0 4,zGm 120 8 65 1 66 8 66,zAb 10 66]))))))) (zS [zBa 88 8 15,zAb 89 10,zBb 88 6 88 6 88 88 8,zAb 7 89] .ret))))))))))
def s_iHear:Sig:=⟨[.rd true Ct2,.rd false [.d],.rd true Ct7],(.tup [(true,15),(false,1)] Ct1)⟩
def E_iHear:TEnv:=envOf [(115,p_icopyHead),(116,p_iHeadOk),(118,p_iAnswerOk),(74,p_iBusy),(119,p_icopyInts),(121,p_iyesNo),(120,p_iHead_say),(122,p_iHead_released)]
def f_iHear (n:Nat):Zt4 × Int × Zt10->Option (Zt3 × Unit):=runFn n E_iHear c_iHear [Ty3,[.i .i64],Ty13] Ty1 [] [6,7] .no
def g_iHear:=f_iHear BIG
def p_iHear:TSp:=⟨s_iHear,[Ty3,[.i .i64],Ty13],Ty1,[],Ou.j .no,g_iHear⟩
theorem k_iHear:zK E_iHear 67 s_iHear c_iHear 90 .no [6,7]:=by show _=_;kernel_rfl
theorem ok_iHear:p_iHear.Ok PG 67:=mkOk (env_cons ok_icopyHead (env_cons ok_iHeadOk (env_cons ok_iAnswerOk (env_cons ok_iBusy (env_cons ok_icopyInts (env_cons ok_iyesNo (env_cons ok_iHead_say (env_cons ok_iHead_released (env_nil PG))))))))) k_iHear (by kernel_rfl)
theorem e_iHear (n) (a0) (a1) (a2):f_iHear n (a0,a1,a2) = (g_icopyHead a0).bind fun r0=> ((g_iHeadOk a0).bind fun r1=> bif !r1.1 then some true else (g_iAnswerOk (a0.1,a2)).bind fun r2=> bif !r2.1 then some true else (g_iBusy a0).bind fun r3=> bif !r3.1 then some true else bif !decide (a1=a0.2.2.2.2.2.2.2.2.2.1) then some true else some (!decide (a2.1=a0.2.2.2.2.2.2.2.2.2.2.1))).bind fun x4=> bif x4 then some ((r0.1.1,r0.1.2.1,r0.1.2.2.1,r0.1.2.2.2.1,r0.1.2.2.2.2.1,r0.1.2.2.2.2.2.1,r0.1.2.2.2.2.2.2.1,r0.1.2.2.2.2.2.2.2.1,r0.1.2.2.2.2.2.2.2.2.1,r0.1.2.2.2.2.2.2.2.2.2.1,r0.1.2.2.2.2.2.2.2.2.2.2.1,r0.1.2.2.2.2.2.2.2.2.2.2.2.1,r0.1.2.2.2.2.2.2.2.2.2.2.2.2.1,r0.1.2.2.2.2.2.2.2.2.2.2.2.2.2.1,r0.1.2.2.2.2.2.2.2.2.2.2.2.2.2.2,(0:Int)),()) else bnd r0.1.2.2.2.2.1.length (IntKind.wrap .i64 (a1-1)) fun n5=> r0.1.2.2.2.2.1[n5]?.bind fun y6=> (g_icopyInts a2.2.2.2).bind fun r7=> bnd r0.1.2.2.2.1.length (IntKind.wrap .i64 (a1-1)) fun n8=> r0.1.2.2.2.1[n8]?.bind fun y9=> (bif !decide (r0.1.2.2.2.2.2.2.1=4) then (g_iyesNo a2.2.1).bind fun r10=> (g_iHead_say ((r0.1.1,r0.1.2.1,r0.1.2.2.1,r0.1.2.2.2.1.set n8 r7.1,r0.1.2.2.2.2.1.set n5 a2.1,(0:Int),(0:Int),(0:Int),(0:Int),(0:Int),(0:Int),(0:Int),[],(0:Int),r0.1.2.2.2.2.2.2.2.2.2.2.2.2.2.2),(r0.1.2.2.2.2.2.1,r0.1.2.2.2.2.2.2.1,r0.1.2.2.2.2.2.2.2.1,r0.1.2.2.2.2.2.2.2.2.1),r10.1)).bind fun r11=> some (r11.2,r11.1) else bif decide (r0.1.2.2.2.2.2.2.2.2.2.2.2.1=3) then (g_iHead_released ((r0.1.1,r0.1.2.1,r0.1.2.2.1,r0.1.2.2.2.1.set n8 r7.1,r0.1.2.2.2.2.1.set n5 a2.1,(0:Int),(0:Int),(0:Int),(0:Int),(0:Int),(0:Int),(0:Int),[],(0:Int),r0.1.2.2.2.2.2.2.2.2.2.2.2.2.2.2),(r0.1.2.2.2.2.2.1,r0.1.2.2.2.2.2.2.1,r0.1.2.2.2.2.2.2.2.1,r0.1.2.2.2.2.2.2.2.2.1),a2.2.2.1)).bind fun r12=> some (r12.2,r12.1) else (g_iHead_say ((r0.1.1,r0.1.2.1,r0.1.2.2.1,r0.1.2.2.2.1.set n8 r7.1,r0.1.2.2.2.2.1.set n5 a2.1,(0:Int),(0:Int),(0:Int),(0:Int),(0:Int),(0:Int),(0:Int),[],(0:Int),r0.1.2.2.2.2.2.2.2.2.2.2.2.2.2.2),(r0.1.2.2.2.2.2.1,r0.1.2.2.2.2.2.2.1,r0.1.2.2.2.2.2.2.2.1,r0.1.2.2.2.2.2.2.2.2.1),(1:Int))).bind fun r13=> some (r13.2,r13.1):Option (Zt4 × Int)).bind fun x14=> some ((x14.1.1,x14.1.2.1,x14.1.2.2.1,x14.1.2.2.2.1,x14.1.2.2.2.2.1,x14.1.2.2.2.2.2.1,x14.1.2.2.2.2.2.2.1,x14.1.2.2.2.2.2.2.2.1,x14.1.2.2.2.2.2.2.2.2.1,x14.1.2.2.2.2.2.2.2.2.2.1,x14.1.2.2.2.2.2.2.2.2.2.2.1,x14.1.2.2.2.2.2.2.2.2.2.2.2.1,x14.1.2.2.2.2.2.2.2.2.2.2.2.2.1,x14.1.2.2.2.2.2.2.2.2.2.2.2.2.2.1,x14.1.2.2.2.2.2.2.2.2.2.2.2.2.2.2,x14.2),()):=by kernel_rfl
def c_iHeadFrom:TC:=
 (zS [zBe 6 1000000007,zBo 7] (zS [zIh 15 0 1,zAj 17 65 15 16,zAs 17 14 17,zGo 14 15 18 14,zGp 19 14 15,zBe 8 1000000009,zIc 18 18 8 18 8 18 18,zAb 9 19] (zQ (zS [zAb 20 9,zBz 21 20] (zC 21 (zS [zBE 22,zIc 22 22 6 22 6 22 22,zBo 7] .ret) .skip)) (zQ (.join [⟨6,Ty3,false⟩,⟨8,Ty3,false⟩] 144115188067482048 (some [⟨6,Ty3,false⟩,⟨7,[.b],false⟩]) (zS [zKm 23 2] (.block 0 (.loop [⟨6,Ty3,false⟩,⟨8,Ty3,false⟩,⟨25,[.i .i64],false⟩] 144115188042316224 (zS [zAg 26 25 24] (zQ (zC 26 .skip (.exit 0)) (zQ (.join [⟨6,Ty3,false⟩,⟨8,Ty3,false⟩] 72057593903724992 (some [⟨6,Ty3,false⟩,⟨7,[.b],false⟩]) (.block 1 (zS [zIg 27 23 25 14 14,zBm 11 1000000012,zAy 11 11 28] (zS [zAa 12] (zS [zAx 29 8 15,zBe 13 1000000014,zAy 13 13 29] (zQ (.join [⟨13,Ty3,false⟩,⟨12,[.i .i64],false⟩] 4503598553640960 none (zS [zIf 30 11 0] (.block 2 (zS [zEi 33 31 1,zAb 32 33] (zC 32 (zR [zAx 35 8 15,zIu 36 11 1 4,zAj 38 66 35 37,zJd 38 34 38 15,zGp 40 34 15,zIc 39 39 13 39 13 39 39,zAb 12 40]) (zS [zEi 42 31 2,zAb 41 42] (zC 41 (zR [zAx 44 8 15,zIf 45 11 5,zIu 47 11 6 4,zGn 49 67 44 46 48,zJd 49 43 49 15,zGp 51 43 15,zIc 50 50 13 50 13 50 50,zAb 12 51]) .skip))))))) (zQ (zS [zAb 52 12,zEi 53 52 0] (zC 53 (zS [zBE 54,zIc 54 54 6 54 6 54 54,zBo 7] .ret) .skip)) (zR [zAx 55 13 15,zAy 8 8 55])))))))) (zR [zIB 56 25])))))))) (zS [zAx 57 8 15,zAy 6 6 57,zDh 7] .ret)))))
def s_iHeadFrom:Sig:=⟨[.rd false [.d],.rd false [.d],.rd false Ct3],(.tup [(true,15),(false,1)] [.d,.sl (.ro []) [.d],.sl (.ro []) [.d,.d],.sl (.ro []) [.sl (.ro []) [.d]],.sl (.ro []) [.d],.d,.d,.d,.d,.d,.d,.d,.sl (.ro []) [.d,.d],.d,.sl (.ro []) Ct23,.d])⟩
def E_iHeadFrom:TEnv:=envOf [(65,p_iHeadNew),(66,p_iTake),(67,p_iHear)]
def f_iHeadFrom (n:Nat):Int × Int × (List Zt6)->Option (Zt2 × Unit):=runFn n E_iHeadFrom c_iHeadFrom [[.i .i64],[.i .i64],Ty4] Ty2 [] [6,7] .no
def g_iHeadFrom:=f_iHeadFrom BIG
def p_iHeadFrom:TSp:=⟨s_iHeadFrom,[[.i .i64],[.i .i64],Ty4],Ty2,[],Ou.j .no,g_iHeadFrom⟩
theorem k_iHeadFrom:zK E_iHeadFrom 28 s_iHeadFrom c_iHeadFrom 58 .no [6,7]:=by show _=_;kernel_rfl
theorem ok_iHeadFrom:p_iHeadFrom.Ok PG 28:=mkOk (env_cons ok_iHeadNew (env_cons ok_iTake (env_cons ok_iHear (env_nil PG)))) k_iHeadFrom (by kernel_rfl)
theorem e_iHeadFrom (n) (a0) (a1) (a2):f_iHeadFrom n (a0,a1,a2) =
 (g_iHeadNew (a0,a1)).bind fun r0=>
 bif !r0.1.2.2.2.2.2.2.2.2.2.2.2.2.2.2.2 then
  some (((0:Int),[],[],[],[],(0:Int),(0:Int),(0:Int),(0:Int),(0:Int),(0:Int),(0:Int),[],(0:Int),[],false),())
 else (loopT n (X:=Zt4 × Zt4 × Int) (B:=(Zt4 × Zt4) ⊕ (Zt4 × Bool)) (fun self2 x1=>
  bif decide (x1.2.2<(a2.length:Int)) then
   (bnd a2.length x1.2.2 fun n3=>
    a2[n3]?.bind fun y4=>
    (bif decide (y4.1=1) then
     (g_iTake (x1.2.1,(y4.2.1,y4.2.2.1,y4.2.2.2.1,y4.2.2.2.2.1))).bind fun r5=>
     some ((r5.1.1,r5.1.2.1,r5.1.2.2.1,r5.1.2.2.2.1,r5.1.2.2.2.2.1,r5.1.2.2.2.2.2.1,r5.1.2.2.2.2.2.2.1,r5.1.2.2.2.2.2.2.2.1,r5.1.2.2.2.2.2.2.2.2.1,r5.1.2.2.2.2.2.2.2.2.2.1,r5.1.2.2.2.2.2.2.2.2.2.2.1,r5.1.2.2.2.2.2.2.2.2.2.2.2.1,r5.1.2.2.2.2.2.2.2.2.2.2.2.2.1,r5.1.2.2.2.2.2.2.2.2.2.2.2.2.2.1,r5.1.2.2.2.2.2.2.2.2.2.2.2.2.2.2.1),r5.1.2.2.2.2.2.2.2.2.2.2.2.2.2.2.2)
     else bif decide (y4.1=2) then
      (g_iHear (x1.2.1,y4.2.2.2.2.2.1,(y4.2.2.2.2.2.2.1,y4.2.2.2.2.2.2.2.1,y4.2.2.2.2.2.2.2.2.1,y4.2.2.2.2.2.2.2.2.2.1))).bind fun r6=>
      some ((r6.1.1,r6.1.2.1,r6.1.2.2.1,r6.1.2.2.2.1,r6.1.2.2.2.2.1,r6.1.2.2.2.2.2.1,r6.1.2.2.2.2.2.2.1,r6.1.2.2.2.2.2.2.2.1,r6.1.2.2.2.2.2.2.2.2.1,r6.1.2.2.2.2.2.2.2.2.2.1,r6.1.2.2.2.2.2.2.2.2.2.2.1,r6.1.2.2.2.2.2.2.2.2.2.2.2.1,r6.1.2.2.2.2.2.2.2.2.2.2.2.2.1,r6.1.2.2.2.2.2.2.2.2.2.2.2.2.2.1,r6.1.2.2.2.2.2.2.2.2.2.2.2.2.2.2.1),r6.1.2.2.2.2.2.2.2.2.2.2.2.2.2.2.2)
     else some (x1.2.1,(0:Int))).bind fun x7=>
    bif decide (x7.2=0) then
     some (Sum.inr (((0:Int),[],[],[],[],(0:Int),(0:Int),(0:Int),(0:Int),(0:Int),(0:Int),(0:Int),[],(0:Int),[]),false))
    else some (Sum.inl (x1.1,x7.1)):Option ((Zt4 × Zt4) ⊕ (Zt4 × Bool))).bind fun y=>match y with
   | .inl x8=>
    self2 (x8.1,x8.2,IntKind.wrap .i64 (x1.2.2+1))
   | .inr x8=>
    some (Sum.inr (x8.1,x8.2))
  else some (Sum.inl (x1.1,x1.2.1))) (((0:Int),[],[],[],[],(0:Int),(0:Int),(0:Int),(0:Int),(0:Int),(0:Int),(0:Int),[],(0:Int),[]),(r0.1.1,r0.1.2.1,r0.1.2.2.1,r0.1.2.2.2.1,r0.1.2.2.2.2.1,r0.1.2.2.2.2.2.1,r0.1.2.2.2.2.2.2.1,r0.1.2.2.2.2.2.2.2.1,r0.1.2.2.2.2.2.2.2.2.1,r0.1.2.2.2.2.2.2.2.2.2.1,r0.1.2.2.2.2.2.2.2.2.2.2.1,r0.1.2.2.2.2.2.2.2.2.2.2.2.1,r0.1.2.2.2.2.2.2.2.2.2.2.2.2.1,r0.1.2.2.2.2.2.2.2.2.2.2.2.2.2.1,r0.1.2.2.2.2.2.2.2.2.2.2.2.2.2.2.1),(0:Int))).bind fun y=>match y with
 | .inl x9=>
  some ((x9.2.1,x9.2.2.1,x9.2.2.2.1,x9.2.2.2.2.1,x9.2.2.2.2.2.1,x9.2.2.2.2.2.2.1,x9.2.2.2.2.2.2.2.1,x9.2.2.2.2.2.2.2.2.1,x9.2.2.2.2.2.2.2.2.2.1,x9.2.2.2.2.2.2.2.2.2.2.1,x9.2.2.2.2.2.2.2.2.2.2.2.1,x9.2.2.2.2.2.2.2.2.2.2.2.2.1,x9.2.2.2.2.2.2.2.2.2.2.2.2.2.1,x9.2.2.2.2.2.2.2.2.2.2.2.2.2.2.1,x9.2.2.2.2.2.2.2.2.2.2.2.2.2.2.2,true),())
 | .inr x9=>
  some ((x9.1.1,x9.1.2.1,x9.1.2.2.1,x9.1.2.2.2.1,x9.1.2.2.2.2.1,x9.1.2.2.2.2.2.1,x9.1.2.2.2.2.2.2.1,x9.1.2.2.2.2.2.2.2.1,x9.1.2.2.2.2.2.2.2.2.1,x9.1.2.2.2.2.2.2.2.2.2.1,x9.1.2.2.2.2.2.2.2.2.2.2.1,x9.1.2.2.2.2.2.2.2.2.2.2.2.1,x9.1.2.2.2.2.2.2.2.2.2.2.2.2.1,x9.1.2.2.2.2.2.2.2.2.2.2.2.2.2.1,x9.1.2.2.2.2.2.2.2.2.2.2.2.2.2.2,x9.2),()):=by kernel_rfl
def c_isameSaid:TC:=
 (zS [zBo 4] (zQ (zS [zKj 6 0 6 8 1 8] (zC 10 (zS [zBo 4] .ret) .skip)) (zQ (.join [] 67106864 (some [⟨4,[.b],false⟩]) (zS [zKm 11 0] (.block 0 (.loop [⟨13,[.i .i64],false⟩] 67100720 (zS [zAg 14 13 12] (zQ (zC 14 .skip (.exit 0)) (zQ (.block 1 (zS [zJc 15 13 5] (zS [zKf 16 0 5 20 1 5 6 6 6 6,zHb 24 19 23] (zC 24 (zS [zBo 4] .ret) .skip)))) (zR [zIB 25 13])))))))) (zS [zDh 4] .ret))))
def s_isameSaid:Sig:=⟨[.rd false Ct13,.rd false Ct13],(.one false [.d])⟩
def E_isameSaid:TEnv:=envOf []
def f_isameSaid (n:Nat):(List Zt14) × (List Zt14)->Option ((Bool) × Unit):=runFn n E_isameSaid c_isameSaid [Ty11,Ty11] [.b] [] [4] .no
def g_isameSaid:=f_isameSaid BIG
def p_isameSaid:TSp:=⟨s_isameSaid,[Ty11,Ty11],[.b],[],Ou.j .no,g_isameSaid⟩
theorem k_isameSaid:zK E_isameSaid 29 s_isameSaid c_isameSaid 26 .no [4]:=by show _=_;kernel_rfl
theorem ok_isameSaid:p_isameSaid.Ok PG 29:=mkOk (env_nil PG) k_isameSaid (by kernel_rfl)
theorem e_isameSaid (n) (a0) (a1):f_isameSaid n (a0,a1) = bif !decide ((a0.length:Int)=(a1.length:Int)) then some (false,()) else (loopT n (X:=Int) (B:=(Unit) ⊕ (Bool)) (fun self1 x0=> bif decide (x0<(a0.length:Int)) then bnd a0.length x0 fun n2=> a0[n2]?.bind fun y3=> bnd a1.length x0 fun n4=> a1[n4]?.bind fun y5=> bif !(decide (y3.1=y5.1)&&(decide (y3.2.1=y5.2.1)&&(decide (y3.2.2.1=y5.2.2.1)&&(decide (y3.2.2.2.1=y5.2.2.2.1)&&(decide (y3.2.2.2.2.1=y5.2.2.2.2.1)&&(decide (y3.2.2.2.2.2=y5.2.2.2.2.2)&&true)))))) then some (Sum.inr false) else self1 (IntKind.wrap .i64 (x0+1)) else some (Sum.inl ())) (0:Int)).bind fun y=>match y with | .inl x6=> some (true,()) | .inr x6=> some (x6,()):=by kernel_rfl
def c_iGraphOk:TC:=
 (zS [zKh 1] (zQ (.join [⟨2,[.b],false⟩] 8188 none (zR [zIj 3 1 0 3,zBy 5 113 4 12,zAb 6 5,zDm 7 3,zDn 8 1 0 7 3,zDm 9 3,zDn 10 1 1 9 3,zDy 170 8 10 11 11 3,zJe 6 11 12 2])) .ret))
def s_iGraphOk:Sig:=⟨[.rd true Ct19],(.one false [.d])⟩
def E_iGraphOk:TEnv:=envOf [(113,p_iin),(170,p_iedgesOk)]
def f_iGraphOk (n:Nat):Zt17->Option ((Bool) × Unit):=runFn n E_iGraphOk c_iGraphOk [Ty20] [.b] [] [2] .no
def g_iGraphOk:=f_iGraphOk BIG
def p_iGraphOk:TSp:=⟨s_iGraphOk,[Ty20],[.b],[],Ou.j .no,g_iGraphOk⟩
theorem k_iGraphOk:zK E_iGraphOk 129 s_iGraphOk c_iGraphOk 13 .no [2]:=by show _=_;kernel_rfl
theorem ok_iGraphOk:p_iGraphOk.Ok PG 129:=mkOk (env_cons ok_iin (env_cons ok_iedgesOk (env_nil PG))) k_iGraphOk (by kernel_rfl)
theorem e_iGraphOk (n) (a0):f_iGraphOk n a0 = ((g_iin (a0.1,(1:Int),(12:Int))).bind fun r0=> bif r0.1 then (g_iedgesOk (a0.1,a0.2)).bind fun r1=> some r1.1 else some false).bind fun x2=> some (x2,()):=by kernel_rfl
def c_iHasEdge:TC:=
 (zS [zJB 2 1] (zS [zIj 5 2 1 5,zAx 7 3 2,zAj 8 124 6 7,zAb 4 8] .ret))
def s_iHasEdge:Sig:=⟨[.rd true Ct19,.rd true [.d,.d]],(.one false [.d])⟩
def E_iHasEdge:TEnv:=envOf [(124,p_ihasEdge)]
def f_iHasEdge (n:Nat):Zt17 × Zt20->Option ((Bool) × Unit):=runFn n E_iHasEdge c_iHasEdge [Ty20,[.i .i64,.i .i64]] [.b] [] [4] .no
def g_iHasEdge:=f_iHasEdge BIG
def p_iHasEdge:TSp:=⟨s_iHasEdge,[Ty20,[.i .i64,.i .i64]],[.b],[],Ou.j .no,g_iHasEdge⟩
theorem k_iHasEdge:zK E_iHasEdge 189 s_iHasEdge c_iHasEdge 9 .no [4]:=by show _=_;kernel_rfl
theorem ok_iHasEdge:p_iHasEdge.Ok PG 189:=mkOk (env_cons ok_ihasEdge (env_nil PG)) k_iHasEdge (by kernel_rfl)
theorem e_iHasEdge (n) (a0) (a1):f_iHasEdge n (a0,a1) = (g_ihasEdge (a0.2,a1)).bind fun r0=> some (r0.1,()):=by kernel_rfl
def c_iAddEdge:TC:=
 (zS [zAm 2,zDk 3 1,zHd 4 1000000005,zBo 5] (zQ (.seq (.join [⟨20,[.b],false⟩] 2097088 none (zR [zLe 6 2 2 129 6,zBz 8 7,zKz 9 8 3 2 0 3,zKD 12 3 2 3 128 11 3,zJg 14 13 3 9,zEx 17 2 2 10,zEx 18 3 2 10,zEh 189 17 18 19 19 10,zBD 16 19 20])) (zC 20 (zS [zHe 21,zDa 4 21 4 21,zBo 5] .ret) .skip)) (zS [zIv 22 2 0 2 1,zJs 26 3 2 125 25,zHf 23 27 28 27,zDa 4 28 4 28,zDh 5] .ret)))
def s_iAddEdge:Sig:=⟨[.rd true Ct19,.rd true [.d,.d]],(.tup [(true,2),(false,1)] Ct17)⟩
def E_iAddEdge:TEnv:=envOf [(129,p_iGraphOk),(128,p_iEdgeOk),(189,p_iHasEdge),(125,p_iwithEdge)]
def f_iAddEdge (n:Nat):Zt17 × Zt20->Option (Zt15 × Unit):=runFn n E_iAddEdge c_iAddEdge [Ty20,[.i .i64,.i .i64]] Ty18 [] [4,5] .no
def g_iAddEdge:=f_iAddEdge BIG
def p_iAddEdge:TSp:=⟨s_iAddEdge,[Ty20,[.i .i64,.i .i64]],Ty18,[],Ou.j .no,g_iAddEdge⟩
theorem k_iAddEdge:zK E_iAddEdge 173 s_iAddEdge c_iAddEdge 29 .no [4,5]:=by show _=_;kernel_rfl
theorem ok_iAddEdge:p_iAddEdge.Ok PG 173:=mkOk (env_cons ok_iGraphOk (env_cons ok_iEdgeOk (env_cons ok_iHasEdge (env_cons ok_iwithEdge (env_nil PG))))) k_iAddEdge (by kernel_rfl)
theorem e_iAddEdge (n) (a0) (a1):f_iAddEdge n (a0,a1) = ((g_iGraphOk a0).bind fun r0=> bif !r0.1 then some true else (g_iEdgeOk (a0.1,a1)).bind fun r1=> bif !r1.1 then some true else (g_iHasEdge (a0,a1)).bind fun r2=> some r2.1).bind fun x3=> bif x3 then some (((0:Int),[],false),()) else (g_iwithEdge (a0.2,a1)).bind fun r4=> some ((a0.1,r4.1,true),()):=by kernel_rfl
end
end Go.Fw
