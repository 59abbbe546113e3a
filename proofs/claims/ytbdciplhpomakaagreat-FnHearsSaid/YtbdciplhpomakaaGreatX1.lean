/- The given functions, as what they compute; each is shown to be what the code does. No conditions. -/
import Derived.Test.YtbdciplhpomakaaGreatX0
set_option linter.unusedVariables false
set_option linter.unusedSimpArgs false
set_option linter.unusedSectionVars false
namespace Go.Fw
noncomputable section
def VW:TC:=
 (zS [bW 2 0,bW 3 1,zBE 4 1000000005,Jl 5 1000000006,bD 6] (zQ (.seq (.join [⟨45,[.b],false⟩] 70368743915520 none (zR [vY 18 2 7 118,kI 20 19,vW 22 3,AC 23 22 3,w9 24 2 1 23 3,OG 25 3 4 3 119 24 3,qc 27 26 3 21,EJ 30 11 3 0,XR 32 11,w9 34 2 3 33 11,zGb 35 31 34 11,eZ 36 35 11,xe 37 18 3 0,Ti 39 18 2 3,zHd 42 41 18,zEz 43 38 42 18,AO 36 43 44 44 11 29])) (zC 45 (zS [zDd 46,zEC 47,dW 4 46 4 46,dW 5 47 5 47,kg 6 1] .ret) .skip)) (zQ (zS [bF 48 3 0,Tm 50 2 3,mI 53 49 52] (zC 53 (zS [vY 54 2 7 115,Kk 56 2 3 4,dX 58 120 57,dW 4 55 4 55,dW 5 58 5 58,bD 6] .ret) .skip)) (zS [bF 59 3 0,[o5 (.build fQ [(0,.t 60),(1,.c [.b] [.bool true])]) 61 1000000002],Jl 7 1000000008,dW 7 61 7 61] (zS [[⟨false,[],[3000002002],.det 1 (.idx .nil),[62,2,50,51],(some 62),none⟩],Jk 63 2 1 62 2,EG 8 1000000009,df 8 8 63] (zQ (.join [⟨8,bv,false⟩,⟨7,fQ,false⟩] 1461501637330902918203684832697836275582223253376 none (zS [bF 64 3 1] (.block 0 (zQ (.join [⟨66,[.b],false⟩] 516508834063867445248 none (zS [Kl 67 65 1] (zC 66 .skip (zR [Kl 68 65 4])))) (zC 66 (zS [bD 9] (.block 1 (.loop [⟨8,bv,false⟩,⟨7,fQ,false⟩,⟨9,[.i .i64],false⟩] 19807040038270274039680339840 (zQ (zS [OI 69 9 3 2 72] (zC 73 .skip (.exit 1))) (zQ (.join [⟨8,bv,false⟩,⟨7,fQ,false⟩] 19806965070702358484062571904 none (.block 2 (zS [ai 80 9,zGt 1000000011 8 77 77,Jm 1000000011 78 78 3 2,zHa 1000000011 79 80 81 81,zHc 1000000011 79 2 0 81 2 82 82,zGv 1000000011 121 77 82 83 83,zLy 1000000011 83 76 83 76,EG 10 1000000011,vZ 10 84 10 84] (zQ (.join [⟨8,bv,false⟩] 232113757366008801543587072 none (zS [ai 86 11] (zC 86 (zR [[⟨false,[],[3000010001],.det 1 (.load 10 [] 0 .nil 2 false),[87,10],(some 87),none⟩],df 8 8 87]) .skip))) (.join [⟨7,fQ,false⟩] 19497555618744739329661206656 none (zR [bF 88 7 1,Jq 90 89 11 2,lF 90 91 92,qP 93 7 7 1 92])))))) (zR [dZ 74 9 9])))))) (zS [jD 95 65 2 94] (zC 94 (zS [zHe 1000000013 1000000014 8 97 97,zLx 1000000013 1000000014 98 98 3 2,zHh 1000000013 1000000014 99 100 100,zHi 1000000013 1000000014 99 100 101 101,zKn 1000000013 1000000014 122 97 101 102 102 96 96,zHm 1000000013 1000000014 96 0 2 103 103,zLn 1000000013 1000000014 96 2 2 104 104 4 5,zHo 1000000014 12 1000000013 12,zHp 1000000013 13 1000000014 13,df 12 12 103,df 13 13 104,ai 14 105,ai 15 106] (zQ (.join [⟨8,bv,false⟩] 486777830487640090174734030864640 none (zS [ai 107 15] (zC 107 (zR [dw 108 12 2,df 8 8 108]) .skip))) (zR [ai 109 15,qP 110 7 7 1 109]))) (zS [jD 112 65 3 111] (zC 111 (zS [vY 113 8 2 123,[o5 (.ext 114 1 1) 115 114],bV 115 16 115] (zS [bD 17] (.block 3 (.loop [⟨8,bv,false⟩,⟨7,fQ,false⟩,⟨17,[.i .i64],false⟩] 1461501637330819841453948275474226531714665152896 (zQ (zS [ai 116 17,eU 117 16,tL 118 117 116] (zC 119 .skip (.exit 3))) (zQ (.join [⟨8,bv,false⟩,⟨7,fQ,false⟩] 1461501637325586006220545169224667791414811165056 none (.block 4 (zQ (.join [⟨139,[.b],false⟩] 1393791257996180806682490776812281472745472 none (zR [eU 122 16,ai 123 17,Tf 124 122 123,XK 126 16 2 125,bF 127 3 3,mI 129 126 128,ai 130 129,zHq 16 131 131 8,Tk 132 17 8 131 8,AC 134 133 8,[o2 135 (.load 16 [(0,2)] 1 (.t 134) 1 false) 8 false],iJ 136 8 3 3 8,zDs 138 135 137 8,tC 130 138 139])) (zC 139 (zS [eU 142 16,ai 143 17,dw 141 8 2,Ki 144 142 143 16 2 2,fJ 146 122 141 145,bV 146 140 146,[o1 147 (.ext 140 0 2),o1 148 (.ext 140 2 2)],zDc 149 140 4,zDc 150 140 5,df 8 8 147] (zR [eU 153 16,ai 154 17,jr 151 7 2,Ki 155 153 154 16 2 2,Kg 157 156,OH 152 152 157 158 152 152 7 158 7 7 2])) .skip)))) (zR [OJ 120 17]))))))) .skip))))))))) (zS [vY 160 8 2 124,d_ 162,Te 7 161 7 3 162 161] (zS [bF 163 2 0,dw 165 8 2,gP 166 7 4,[o1 167 (.build gF [(0,.t 164),(1,.t 165),(3,.t 166)])],dX 168 115 167,gP 169 7 4,dX 170 120 169,dW 4 168 4 168,dW 5 170 5 170,bD 6] .ret))))))))
def afq:aI:=⟨[.rd true Jj,.rd true EC],(.tup [(true,7),(true,4),(false,1)] [.d,.d,.sl (.own none) [.d,.d,.d,.d],.d,.d,.sl (.own none) [.d,.d],.sl (.own none) [.d],.d,.d,.sl (.own none) [.d,.d],.sl (.own none) [.d],.d])⟩
def VX:aH:=aA [(118,TQ),(119,GA),(115,TW),(120,pu),(121,Yb),(122,Ub),(123,qQ),(124,zb)]
def VY (n:Nat):mJ × lU->Option (Zt4 × Unit):=aC n VX VW [gF,eX] Ty3 [] [4,5,6] .no
def lL:=VY BIG
def VZ:TSp:=⟨afq,[gF,eX],Ty3,[],Ou.j .no,lL⟩
theorem aoq:aM PG VX 40 afq (VW.ht 171) .no=some (VW.wc VX,[4,5,6]):=by kernel_rfl
theorem abh:VZ.Ok PG 40:=aN (ae adj (ae O6 (ae adk (ae xg (ae ahf (ae adm (ae uY (ae Js (aj PG))))))))) aoq (by kernel_rfl)
theorem aor (n) (a0) (a1):VY n (a0,a1) = ((xG a0).bind fun r0=> bif !r0.1 then some true else (xH (a0.2.1,a1)).bind fun r1=> bif !r1.1 then some true else bif !decide (a1.1=a0.2.2.2.1) then some (!decide (a1.1=(IntKind.wrap .i64 (a0.2.2.2.1+(1:Int))))) else some false:Option (Bool)).bind fun x2=> bif x2 then some (((0:Int),(0:Int),[],(0:Int),false,[],[],(0:Int),false,[],[],(1:Int)),()) else bif decide (a1.1=a0.2.2.2.1) then (rC a0).bind fun r3=> (ic a0.2.2.2).bind fun r4=> some ((r3.1.1,r3.1.2.1,r3.1.2.2.1,r3.1.2.2.2.1,r3.1.2.2.2.2.1,r3.1.2.2.2.2.2.1,r3.1.2.2.2.2.2.2,r4.1.1,r4.1.2.1,r4.1.2.2.1,r4.1.2.2.2,(0:Int)),()) else ((bif decide (a1.2.1=(1:Int)) then some true else some (decide (a1.2.1=(4:Int))):Option (Bool)).bind fun x5=> bif x5 then aJ n (X:=bK × iC × Int) (B:=bK × iC) (fun self7 x6=> bif decide (x6.2.2<(a1.2.2.1.length:Int)) then (bnd a1.2.2.1.length x6.2.2 fun n8=> a1.2.2.1[n8]?.bind fun y9=> (wm (x6.1,y9)).bind fun r10=> (bif r10.1.2.2 then some (r10.1.1,r10.1.2.1) else some x6.1:Option (bK)).bind fun x11=> (bif x6.2.1.2.1 then some (x6.2.1.1,r10.1.2.2,x6.2.1.2.2) else some (x6.2.1.1,false,x6.2.1.2.2):Option (iC)).bind fun x12=> some (x11,x12):Option (bK × iC)).bind fun x13=> self7 (x13.1,x13.2,IntKind.wrap .i64 (x6.2.2+(1:Int))) else some (x6.1,x6.2.1)) ((a0.2.1,a0.2.2.1),(a1.1,true,[],[]),(0:Int)) else bif decide (a1.2.1=(2:Int)) then bnd a1.2.2.1.length (0:Int) fun n14=> a1.2.2.1[n14]?.bind fun y15=> (jU ((a0.2.1,a0.2.2.1),y15)).bind fun r16=> (bif r16.1.2.2.2.2.2 then some (r16.1.1,r16.1.2.1) else some (a0.2.1,a0.2.2.1):Option (bK)).bind fun x17=> some (x17,(a1.1,r16.1.2.2.2.2.2,[],[])) else bif decide (a1.2.1=(3:Int)) then (iX (a0.2.1,a0.2.2.1)).bind fun r18=> aJ n (X:=bK × iC × Int) (B:=bK × iC) (fun self20 x19=> bif decide (x19.2.2<(r18.1.2.length:Int)) then ((bnd r18.1.2.length x19.2.2 fun n21=> r18.1.2[n21]?.bind fun y22=> bif decide (y22.1=a1.2.2.2) then some true else bnd r18.1.2.length x19.2.2 fun n23=> r18.1.2[n23]?.bind fun y24=> some (decide (y24.2=a1.2.2.2)):Option (Bool)).bind fun x25=> bif x25 then bnd r18.1.2.length x19.2.2 fun n26=> r18.1.2[n26]?.bind fun y27=> (jU (x19.1,y27)).bind fun r28=> bnd r18.1.2.length x19.2.2 fun n29=> r18.1.2[n29]?.bind fun y30=> bif decide (x19.2.1.2.2.1.length+[y30].length<=4294967296) then some ((r28.1.1,r28.1.2.1),(x19.2.1.1,x19.2.1.2.1,x19.2.1.2.2.1++[y30],x19.2.1.2.2.2)) else none else some (x19.1,x19.2.1):Option (bK × iC)).bind fun x31=> self20 (x31.1,x31.2,IntKind.wrap .i64 (x19.2.2+(1:Int))) else some (x19.1,x19.2.1)) ((a0.2.1,a0.2.2.1),(a1.1,true,[],[]),(0:Int)) else some ((a0.2.1,a0.2.2.1),(a1.1,true,[],[])):Option (bK × iC)).bind fun x32=> (mO x32.1).bind fun r33=> (rC (a0.1,x32.1.1,x32.1.2,x32.2.1,x32.2.2.1,x32.2.2.2.1,r33.1)).bind fun r34=> (ic (x32.2.1,x32.2.2.1,x32.2.2.2.1,r33.1)).bind fun r35=> some ((r34.1.1,r34.1.2.1,r34.1.2.2.1,r34.1.2.2.2.1,r34.1.2.2.2.2.1,r34.1.2.2.2.2.2.1,r34.1.2.2.2.2.2.2,r35.1.1,r35.1.2.1,r35.1.2.2.1,r35.1.2.2.2,(0:Int)),()):=by kernel_rfl
def rF:TC:=
 (zS [bW 1 0,zHs 2 1000000003] (zS [S_ 3,fK 4 1 2 4,vU 3 5 6 3,d_ 7,AJ 6 2 7 6] (zS [gP 8 1 4,vV 8 2 8 2 8 8 1] .ret)))
def A8:aI:=⟨[.rd true EC],(.one true EC)⟩
def rG:aH:=aA []
def rH (n:Nat):lU->Option (lU × Unit):=aC n rG rF [eX] eX [] [2] .no
def rJ:=rH BIG
def A9:TSp:=⟨A8,[eX],eX,[],Ou.j .no,rJ⟩
theorem Uc:aM PG rG 138 A8 (rF.ht 9) .no=some (rF.wc rG,[2]):=by kernel_rfl
theorem QT:A9.Ok PG 138:=aN (aj PG) Uc (by kernel_rfl)
theorem Ud (n) (a0):rH n a0 = bif decide (0+a0.2.2.1.length<=4294967296) then some ((a0.1,a0.2.1,[]++a0.2.2.1,a0.2.2.2),()) else none:=by kernel_rfl
def GX:TC:=
 (zS [bW 1 0,qM 2 1000000003] (zS [S9 5,fK 6 1 1 6,vU 5 7 8 5,d_ 9,AJ 8 1 9 8] (zS [S_ 10,bF 11 1 2,vU 10 12 13 10,d_ 14,AJ 13 2 14 13] (zS [S9 15,bF 16 1 4,vU 15 17 18 15,d_ 19,AJ 18 4 19 18] (zS [[o1 20 (.sli XJ [])],bF 21 1 14,vU 20 22 23 20,d_ 24,AJ 23 14 24 23] (zS [[o1 25 (.sli [.sl [.i .i64]] [])],bV 25 3 25] (zQ (.join [⟨3,[.sl [.sl [.i .i64]]],false⟩] 8796025913368 none (zS [bD 4] (.block 0 (.loop [⟨3,[.sl [.sl [.i .i64]]],false⟩,⟨4,[.i .i64],false⟩] 8796025913368 (zQ (zS [OI 26 4 1 3 29] (zC 30 .skip (.exit 0))) (zQ (.block 1 (zR [bV 3 33 3,S9 34,AP 35 1 3 4,ku 38 36 37 1,vU 34 39 40 34,zBw 40 41 40,[⟨false,[],[],.det 3 (.app (some 33) 41),[42,33,41],(some 42),none⟩],bV 42 3 42])) (zR [dZ 31 4 4]))))))) (zS [bV 3 43 3,d_ 44,AJ 43 3 44 43] (zS [zKp 45,Jk 47 1 10 46 4,dX 48 138 47,zKp 49,AJ 48 10 50 48] (zS [nY 51 1 15 2 2 1] .ret))))))))))
def Ue:aI:=⟨[.rd true l6],(.one true l6)⟩
def GY:aH:=aA [(138,A9)]
def GZ (n:Nat):dR->Option (dR × Unit):=aC n GY GX [bC] bC [] [2] .no
def lh:=GZ BIG
def xJ:TSp:=⟨Ue,[bC],bC,[],Ou.j .no,lh⟩
theorem ahi:aM PG GY 51 Ue (GX.ht 52) .no=some (GX.wc GY,[2]):=by kernel_rfl
theorem Cw:xJ.Ok PG 51:=aN (ae QT (aj PG)) ahi (by kernel_rfl)
theorem ahj (n) (a0):GZ n a0 = bif decide (0+a0.2.1.length<=4294967296) then bif decide (0+a0.2.2.1.length<=4294967296) then bif decide (0+a0.2.2.2.2.1.length<=4294967296) then bif decide (0+a0.2.2.2.2.2.2.2.2.2.2.2.2.2.2.length<=4294967296) then (aJ n (X:=(List (List Int)) × Int) (B:=(List (List Int))) (fun self1 x0=> bif decide (x0.2<(a0.2.2.2.1.length:Int)) then bnd a0.2.2.2.1.length x0.2 fun n2=> a0.2.2.2.1[n2]?.bind fun y3=> bif decide (0+y3.length<=4294967296) then bif decide (x0.1.length+([[]++y3]).length<=4294967296) then self1 (x0.1++([[]++y3]),IntKind.wrap .i64 (x0.2+(1:Int))) else none else none else some x0.1) ([],(0:Int)):Option ((List (List Int)))).bind fun x4=> (rJ (a0.2.2.2.2.2.2.2.2.2.2.1,a0.2.2.2.2.2.2.2.2.2.2.2.1,a0.2.2.2.2.2.2.2.2.2.2.2.2.1,a0.2.2.2.2.2.2.2.2.2.2.2.2.2.1)).bind fun r5=> some ((a0.1,[]++a0.2.1,[]++a0.2.2.1,x4,[]++a0.2.2.2.2.1,a0.2.2.2.2.2.1,a0.2.2.2.2.2.2.1,a0.2.2.2.2.2.2.2.1,a0.2.2.2.2.2.2.2.2.1,a0.2.2.2.2.2.2.2.2.2.1,r5.1.1,r5.1.2.1,r5.1.2.2.1,r5.1.2.2.2,[]++a0.2.2.2.2.2.2.2.2.2.2.2.2.2.2),()) else none else none else none else none:=by kernel_rfl
def G5:TC:=
 (zS [bW 2 0,bD 4] (zQ (.join [] 4194288 (some [⟨4,[.i .i64],false⟩]) (zS [bD 5] (.block 0 (.loop [⟨5,[.i .i64],false⟩] 4194288 (zQ (zS [ai 6 5,fK 7 2 14 7,je 9 8,eD 10 6 9] (zC 10 .skip (.exit 0))) (zQ (.block 1 (zS [d_ 13,EE 14 2 14 13,ai 15 5,XQ 16 14 15 6,ai 19 1,mI 20 18 19] (zC 20 (zS [ai 21 5,ai 4 21] .ret) .skip))) (zR [dZ 11 5 5]))))))) (zS [zEw 4] .ret)))
def Uf:aI:=⟨[.rd true l6,.rd false [.d]],(.one false [.d])⟩
def G6:aH:=aA []
def G7 (n:Nat):dR × Int->Option ((Int) × Unit):=aC n G6 G5 [bC,[.i .i64]] [.i .i64] [] [4] .no
def rM:=G7 BIG
def xK:TSp:=⟨Uf,[bC,[.i .i64]],[.i .i64],[],Ou.j .no,rM⟩
theorem ahk:aM PG G6 53 Uf (G5.ht 22) .no=some (G5.wc G6,[4]):=by kernel_rfl
theorem Cx:xK.Ok PG 53:=aN (aj PG) ahk (by kernel_rfl)
theorem ahl (n) (a0) (a1):G7 n (a0,a1) = (aJ n (X:=Int) (B:=(Unit) ⊕ (Int)) (fun self1 x0=> bif decide (x0<(a0.2.2.2.2.2.2.2.2.2.2.2.2.2.2.length:Int)) then bnd a0.2.2.2.2.2.2.2.2.2.2.2.2.2.2.length x0 fun n2=> a0.2.2.2.2.2.2.2.2.2.2.2.2.2.2[n2]?.bind fun y3=> bif decide (y3.1=a1) then some (Sum.inr x0) else self1 (IntKind.wrap .i64 (x0+(1:Int))) else some (Sum.inl ())) (0:Int):Option ((Unit) ⊕ (Int))).bind fun y=>match y with | .inl x4=> some ((-1:Int),()) | .inr x4=> some (x4,()):=by kernel_rfl
def rO:TC:=
 (zS [bW 2 0,iK 3 1] (zQ (.join [⟨4,[.b],false⟩] 2147483632 none (zR [fK 5 2 0 5,fK 7 3 0 7,mI 9 6 8,qf 10 9 5 2 1 5,tN 13 5 3 1 5,Tq 15 12 14 5 10,Kj 18 12 2 3 3 3,Tq 22 19 21 12 17,Kj 25 19 2 2 3 2,kR 202 26 28 29 29 19,kU 24 29 30 4])) .ret))
def A_:aI:=⟨[.rd true EC,.rd true EC],(.one false [.d])⟩
def rP:aH:=aA [(202,ry)]
def rQ (n:Nat):lU × lU->Option ((Bool) × Unit):=aC n rP rO [eX,eX] [.b] [] [4] .no
def l9:=rQ BIG
def Ba:TSp:=⟨A_,[eX,eX],[.b],[],Ou.j .no,l9⟩
theorem Ug:aM PG rP 170 A_ (rO.ht 31) .no=some (rO.wc rP,[4]):=by kernel_rfl
theorem QU:Ba.Ok PG 170:=aN (ae yQ (aj PG)) Ug (by kernel_rfl)
theorem Uh (n) (a0) (a1):rQ n (a0,a1) = (bif decide (a0.1=a1.1) then bif decide (a0.2.1=a1.2.1) then bif decide (a0.2.2.2=a1.2.2.2) then (l8 (a0.2.2.1,a1.2.2.1)).bind fun r0=> some r0.1 else some false else some false else some false:Option (Bool)).bind fun x1=> some (x1,()):=by kernel_rfl
def rR:TC:=
 (zS [iK 1 0] (zQ (.join [⟨2,[.b],false⟩] 262140 none (zR [d_ 3,Jk 4 1 0 3 4,[o1 5 (.build fI [])],zHt 6 4 5,ai 7 6,ko 8 4,tF 9 1 4 8 4,Oz 10 9 4,kS 7 10 11,ko 13 9,zGj 14 1 5 13 4 9,[o2 15 (.build eX []) 9 true],kR 170 14 15 16 16 9,kU 12 16 17 2])) .ret))
def Bb:aI:=⟨[.rd true Ct4],(.one false [.d])⟩
def rT:aH:=aA [(170,Ba)]
def rU (n:Nat):Zt7->Option ((Bool) × Unit):=aC n rT rR [Kc] [.b] [] [2] .no
def rV:=rU BIG
def Bc:TSp:=⟨Bb,[Kc],[.b],[],Ou.j .no,rV⟩
theorem Ui:aM PG rT 191 Bb (rR.ht 18) .no=some (rR.wc rT,[2]):=by kernel_rfl
theorem QV:Bc.Ok PG 191:=aN (ae QU (aj PG)) Ui (by kernel_rfl)
theorem Uj (n) (a0):rU n a0 = (bif (decide (a0.1=(0:Int))&&(decide (a0.2.1=(0:Int))&&(decide (a0.2.2.1=(0:Int))&&(decide (a0.2.2.2.1=(0:Int))&&true)))) then bif decide (a0.2.2.2.2.1=(0:Int)) then (l9 (a0.2.2.2.2.2,((0:Int),(0:Int),[],(0:Int)))).bind fun r0=> some r0.1 else some false else some false:Option (Bool)).bind fun x1=> some (x1,()):=by kernel_rfl
def Cy:TC:=
 (zS [bW 2 0,iK 3 1] (zQ (.seq (.join [⟨17,[.b],false⟩] 262112 none (zR [fK 5 3 1 5,nH 7 42 6 4,iH 8 7,ai 9 8,iJ 10 4 3 2 4,iJ 12 4 2 0 4,zEf 14 13 4,zEg 42 11 0 14 15 15 4,qN 16 15 4 9])) (zC 17 (zS [aZ 4] .ret) .skip)) (zQ (zS [bF 18 3 1] (.block 0 (zS [Kl 21 19 4] (zC 20 (zS [kT 22 3 3 2 3,je 26 25,zHu 27 42 23 1 26,ai 4 27] .ret) (zS [jD 29 19 3 28] (zC 28 (zS [kT 30 3 3 2 0,tH 34 33,XN 35 42 31 34,ai 4 35] .ret) .skip)))))) (zQ (.join [⟨4,[.b],false⟩] 562881233944592 none (zR [kT 36 3 3 2 0,tH 40 39,XN 41 42 37 40,qf 42 41 6 3 2 6,tN 45 6 3 3 6,zEz 47 44 46 6,kU 42 47 48 4])) .ret))))
def O7:aI:=⟨[.rd true l6,.rd true [.d,.d,.d,.d]],(.one false [.d])⟩
def Cz:aH:=aA [(42,dG)]
def CB (n:Nat):dR × nM->Option ((Bool) × Unit):=aC n Cz Cy [bC,fI] [.b] [] [4] .no
def u7:=CB BIG
def CE:TSp:=⟨O7,[bC,fI],[.b],[],Ou.j .no,u7⟩
theorem adn:aM PG Cz 54 O7 (Cy.ht 49) .no=some (Cy.wc Cz,[4]):=by kernel_rfl
theorem K7:CE.Ok PG 54:=aN (ae dA (aj PG)) adn (by kernel_rfl)
theorem ado (n) (a0) (a1):CB n (a0,a1) = ((bf (a1.2.1,(1:Int),(4:Int))).bind fun r0=> bif !r0.1 then some true else (bf (a1.2.2.1,(0:Int),IntKind.wrap .i64 (a0.1-(1:Int)))).bind fun r1=> some !r1.1:Option (Bool)).bind fun x2=> bif x2 then some (false,()) else bif decide (a1.2.1=(4:Int)) then (bf (a1.2.2.2,(1:Int),(a0.2.2.2.1.length:Int))).bind fun r3=> some (r3.1,()) else bif decide (a1.2.1=(3:Int)) then (bf (a1.2.2.2,(0:Int),IntKind.wrap .i64 (a0.1-(1:Int)))).bind fun r4=> some (r4.1,()) else ((bf (a1.2.2.2,(0:Int),IntKind.wrap .i64 (a0.1-(1:Int)))).bind fun r5=> bif r5.1 then some (!decide (a1.2.2.1=a1.2.2.2)) else some false:Option (Bool)).bind fun x6=> some (x6,()):=by kernel_rfl
def zi:TC:=
 (zS [iK 1 0] (zS [d_ 4,Jk 5 1 5 4 9,zHv 3 1000000004,df 3 3 5] (zQ (zS [dw 6 3 9,dX 7 191 6] (zC 7 (zS [gH 2] .ret) .skip)) (zQ (.join [⟨2,[.b],false⟩] 2305843009213693700 none (zR [fK 8 3 4 8,OO 10 1 3,zHu 13 42 9 1 12,qf 14 13 6 1 0 6,ko 17 6,zGj 18 3 5 17 4 6,kR 119 16 18 19 19 6,kS 14 19 20,Ti 22 13 3 5,Kj 25 13 1 4 3 4,zDn 29 28 13,mH 30 26 29 13,w_ 31 26 1 30 13,zHd 32 31 13,Tq 33 24 32 13 21,zHw 36 1 15 27,Ti 37 27 3 0,kR 53 36 39 40 40 27,zAi 41 40 0 27,kS 35 41 42,zHw 44 1 15 35,ko 45 35,zGj 46 3 0 45 4 35,kR 54 44 46 47 47 35,kS 43 47 48,Ti 50 41 3 1,[o2 53 (.data (.bin .neq) [.t 52,kD 3]) 41 true],kS 49 53 54,Ti 56 47 3 0,zGc 42 58 59 59 47,kU 55 59 60 2])) .ret))))
def K8:aI:=⟨[.rd true l6],(.one false [.d])⟩
def zk:aH:=aA [(191,Bc),(42,dG),(119,GA),(53,xK),(54,CE)]
def zl (n:Nat):dR->Option ((Bool) × Unit):=aC n zk zi [bC] [.b] [] [2] .no
def zm:=zl BIG
def K9:TSp:=⟨K8,[bC],[.b],[],Ou.j .no,zm⟩
theorem abj:aM PG zk 141 K8 (zi.ht 61) .no=some (zi.wc zk,[2]):=by kernel_rfl
theorem YV:K9.Ok PG 141:=aN (ae QV (ae dA (ae O6 (ae Cx (ae K7 (aj PG)))))) abj (by kernel_rfl)
theorem abk (n) (a0):zl n a0 = (rV (a0.2.2.2.2.2.1,a0.2.2.2.2.2.2.1,a0.2.2.2.2.2.2.2.1,a0.2.2.2.2.2.2.2.2.1,a0.2.2.2.2.2.2.2.2.2.1,a0.2.2.2.2.2.2.2.2.2.2.1,a0.2.2.2.2.2.2.2.2.2.2.2.1,a0.2.2.2.2.2.2.2.2.2.2.2.2.1,a0.2.2.2.2.2.2.2.2.2.2.2.2.2.1)).bind fun r0=> bif r0.1 then some (true,()) else ((bf (a0.2.2.2.2.2.2.2.2.2.1,(1:Int),(a0.2.2.2.1.length:Int))).bind fun r1=> bif r1.1 then (xH (a0.1,(a0.2.2.2.2.2.2.2.2.2.2.1,a0.2.2.2.2.2.2.2.2.2.2.2.1,a0.2.2.2.2.2.2.2.2.2.2.2.2.1,a0.2.2.2.2.2.2.2.2.2.2.2.2.2.1))).bind fun r2=> bif r2.1 then bnd a0.2.2.2.2.1.length (IntKind.wrap .i64 (a0.2.2.2.2.2.2.2.2.2.1-(1:Int))) fun n3=> a0.2.2.2.2.1[n3]?.bind fun y4=> bif decide (a0.2.2.2.2.2.2.2.2.2.2.1=(IntKind.wrap .i64 (y4+(1:Int)))) then (rM (a0,a0.2.2.2.2.2.1)).bind fun r5=> bif decide (r5.1<(0:Int)) then (u7 (a0,(a0.2.2.2.2.2.1,a0.2.2.2.2.2.2.1,a0.2.2.2.2.2.2.2.1,a0.2.2.2.2.2.2.2.2.1))).bind fun r6=> bif r6.1 then bif !decide (a0.2.2.2.2.2.2.1=(3:Int)) then (bf (a0.2.2.2.2.2.1,(1:Int),(100000:Int))).bind fun r7=> some r7.1 else some false else some false else some false else some false else some false else some false:Option (Bool)).bind fun x8=> some (x8,()):=by kernel_rfl
def K_:TC:=
 (zS [iK 1 0] (zQ (.seq (.join [⟨49,[.b],false⟩] 1125899906842368 none (zR [fK 8 1 0 8,nH 10 42 9 12,kI 11 10,iJ 13 4 1 3 4,zEu 15 14 4,Ov 42 15 3 16 16 4,qc 17 16 4 12,zLD 20 11 1 4,zLD 23 11 1 3,EM 26 22 25 11 19,ai 28 27,zLD 29 20 1 1,EJ 32 20 1 0,EM 34 31 33 20 28,ai 36 35,EJ 37 28 1 0,EJ 39 28 1 2,yK 139 38 40 41 41 28,qc 42 41 28 36,zLD 45 36 1 14,zDv 48 47 80 36,tC 44 48 49])) (zC 49 (zS [aZ 2] .ret) .skip)) (zQ (.join [] 37778930737057254866956 (some [⟨2,[.b],false⟩]) (zS [bD 3] (.block 0 (.loop [⟨3,[.i .i64],false⟩] 37778930737057254866956 (zQ (zS [OI 50 3 1 3 53] (zC 54 .skip (.exit 0))) (zQ (.join [] 37778787747769085853700 (some [⟨2,[.b],false⟩]) (.block 1 (zQ (.join [⟨74,[.b],false⟩] 37778787747769085853696 none (zR [ai 61 3,kT 57 1 0 1 3,ku 62 60 61 1,fJ 64 140 58 63,kI 65 64,iJ 67 9 1 4 9,Tk 69 3 9 68 9,Td 71 68 1 70 9,zHx 42 71 0 99991 72 72 9,qN 73 72 9 66])) (zC 74 (zS [aZ 2] .ret) .skip)))) (zR [dZ 55 3 3]))))))) (zQ (.join [] 2475842299638897592636538900 (some [⟨2,[.b],false⟩]) (zS [bD 4] (.block 2 (.loop [⟨4,[.i .i64],false⟩] 2475842299638897592636538900 (zQ (zS [OB 75 4 1 0,eD 78 75 77] (zC 78 .skip (.exit 2))) (zQ (.block 3 (zS [ai 83 4,bF 81 1 1,ku 84 82 83 1,OO 86 1 3,zHu 89 42 85 1 88,iH 90 89] (zC 90 (zS [aZ 2] .ret) .skip))) (zR [dZ 79 4 4]))))))) (zQ (.join [] 664613995416577857881142980341923876 (some [⟨2,[.b],false⟩]) (zS [bD 5] (.block 4 (.loop [⟨5,[.i .i64],false⟩] 664613995416577857881142980341923876 (zQ (zS [OI 91 5 1 2 94] (zC 95 .skip (.exit 4))) (zQ (.block 5 (zS [ai 102 5,ai 112 5,kT 98 1 1 1 2,XQ 103 101 102 2,ku 106 99 105 1,kT 108 1 1 1 2,zMg 113 111 112 2 1,ku 116 109 115 1,mI 118 107 117] (zC 118 (zS [aZ 2] .ret) .skip))) (zR [dZ 96 5 5]))))))) (zQ (.join [] 2854495384747305764224114002447086742625321156 (some [⟨2,[.b],false⟩]) (zS [bD 6] (.block 6 (.loop [⟨6,[.i .i64],false⟩] 2854495384747305764224114002447086742625321156 (zQ (zS [OI 119 6 1 14 122] (zC 123 .skip (.exit 6))) (zQ (.join [] 2854495300341328031881956073055338414823440516 (some [⟨2,[.b],false⟩]) (.block 7 (zS [AP 126 1 14 6,jq 129 127 128 6 6,zHy 7 1000000008,df 7 7 130] (zQ (.join [⟨150,[.b],false⟩] 2854492663152984394608864231902130818619801600 none (zR [bF 131 7 0,Tm 133 7 1,tK 136 132 135,ai 137 136,iJ 138 6 7 5 6,Ov 42 139 3 140 140 6,qc 141 140 6 137,AB 144 1 15 12,EJ 145 12 7 0,yK 53 144 146 147 147 12,eZ 148 6 12,EM 149 147 148 12 143])) (zC 150 (zS [aZ 2] .ret) .skip))))) (zR [dZ 124 6 6]))))))) (zS [vY 151 1 15 141,ai 2 152] .ret)))))))
def Yc:aI:=⟨[.rd true l6],(.one false [.d])⟩
def La:aH:=aA [(42,dG),(139,nZ),(140,yX),(53,xK),(141,K9)]
def Lb (n:Nat):dR->Option ((Bool) × Unit):=aC n La K_ [bC] [.b] [] [2] .no
def Bd:=Lb BIG
def Lc:TSp:=⟨Yc,[bC],[.b],[],Ou.j .no,Bd⟩
theorem aj3:aM PG La 52 Yc (K_.ht 153) .no=some (K_.wc La,[2]):=by kernel_rfl
theorem Uk:Lc.Ok PG 52:=aN (ae dA (ae qU (ae Jr (ae Cx (ae YV (aj PG)))))) aj3 (by kernel_rfl)
theorem aj4 (n) (a0):Lb n a0 =
 ((bf (a0.1,(1:Int),(12:Int))).bind fun r0=>
  bif !r0.1 then
   some true
  else (bf ((a0.2.2.2.1.length:Int),(1:Int),(3:Int))).bind fun r1=>
  bif !r1.1 then
   some true
  else bif !decide ((a0.2.2.2.2.1.length:Int)=(a0.2.2.2.1.length:Int)) then
   some true
  else bif !decide ((a0.2.1.length:Int)=a0.1) then
   some true
  else (lJ (a0.1,a0.2.2.1)).bind fun r2=>
  bif !r2.1 then
   some true
  else some (decide ((80:Int)<(a0.2.2.2.2.2.2.2.2.2.2.2.2.2.2.length:Int))):Option (Bool)).bind fun x3=>
 bif x3 then
  some (false,())
 else (aJ n (X:=Int) (B:=(Unit) ⊕ (Bool)) (fun self5 x4=>
  bif decide (x4<(a0.2.2.2.1.length:Int)) then
   ((bnd a0.2.2.2.1.length x4 fun n6=>
    a0.2.2.2.1[n6]?.bind fun y7=>
    (rA (a0.1,y7)).bind fun r8=>
    bif !r8.1 then
     some true
    else bnd a0.2.2.2.2.1.length x4 fun n9=>
    a0.2.2.2.2.1[n9]?.bind fun y10=>
    (bf (y10,(0:Int),(99991:Int))).bind fun r11=>
    some !r11.1:Option (Bool)).bind fun x12=>
    bif x12 then
     some (Sum.inr false)
    else some (Sum.inl ()):Option ((Unit) ⊕ (Bool))).bind fun y=>match y with
   | .inl x13=>
    self5 (IntKind.wrap .i64 (x4+(1:Int)))
   | .inr x13=>
    some (Sum.inr x13)
  else some (Sum.inl ())) (0:Int):Option ((Unit) ⊕ (Bool))).bind fun y=>match y with
 | .inl x14=>
  (aJ n (X:=Int) (B:=(Unit) ⊕ (Bool)) (fun self16 x15=>
   bif decide (x15<a0.1) then
    bnd a0.2.1.length x15 fun n17=>
    a0.2.1[n17]?.bind fun y18=>
    (bf (y18,(1:Int),(a0.2.2.2.1.length:Int))).bind fun r19=>
    bif !r19.1 then
     some (Sum.inr false)
    else self16 (IntKind.wrap .i64 (x15+(1:Int)))
   else some (Sum.inl ())) (0:Int):Option ((Unit) ⊕ (Bool))).bind fun y=>match y with
  | .inl x20=>
   (aJ n (X:=Int) (B:=(Unit) ⊕ (Bool)) (fun self22 x21=>
    bif decide (x21<(a0.2.2.1.length:Int)) then
     bnd a0.2.2.1.length x21 fun n23=>
     a0.2.2.1[n23]?.bind fun y24=>
     bnd a0.2.1.length y24.1 fun n25=>
     a0.2.1[n25]?.bind fun y26=>
     bnd a0.2.2.1.length x21 fun n27=>
     a0.2.2.1[n27]?.bind fun y28=>
     bnd a0.2.1.length y28.2 fun n29=>
     a0.2.1[n29]?.bind fun y30=>
     bif decide (y26=y30) then
      some (Sum.inr false)
     else self22 (IntKind.wrap .i64 (x21+(1:Int)))
    else some (Sum.inl ())) (0:Int):Option ((Unit) ⊕ (Bool))).bind fun y=>match y with
   | .inl x31=>
    (aJ n (X:=Int) (B:=(Unit) ⊕ (Bool)) (fun self33 x32=>
     bif decide (x32<(a0.2.2.2.2.2.2.2.2.2.2.2.2.2.2.length:Int)) then
      (bnd a0.2.2.2.2.2.2.2.2.2.2.2.2.2.2.length x32 fun n34=>
       a0.2.2.2.2.2.2.2.2.2.2.2.2.2.2[n34]?.bind fun y35=>
       (bif !decide (y35.1=y35.2.1) then
        some true
        else (bf (y35.2.2.2.2.2,(1:Int),(3:Int))).bind fun r36=>
        bif !r36.1 then
         some true
        else (rM (a0,y35.1)).bind fun r37=>
        some (!decide (r37.1=x32)):Option (Bool)).bind fun x38=>
       bif x38 then
        some (Sum.inr false)
       else some (Sum.inl ()):Option ((Unit) ⊕ (Bool))).bind fun y=>match y with
      | .inl x39=>
       self33 (IntKind.wrap .i64 (x32+(1:Int)))
      | .inr x39=>
       some (Sum.inr x39)
     else some (Sum.inl ())) (0:Int):Option ((Unit) ⊕ (Bool))).bind fun y=>match y with
    | .inl x40=>
     (zm a0).bind fun r41=>
     some (r41.1,())
    | .inr x40=>
     some (x40,())
   | .inr x31=>
    some (x31,())
  | .inr x20=>
   some (x20,())
 | .inr x14=>
  some (x14,()):=by kernel_rfl
def CF:TC:=
 (zS [bW 4 1] (zS [bN 6,bN 7,ai 14 2,kQ 8 7,yJ 9 8,zBr 10 0 14 9,bF 11 4 0,dw 13 4 4,zHz 15 12 13 14,zHA 16 15,zBs 10 10 16 17 10 10 0 17,kr 18 6,zBt 0 17 10 0 14 19 17] (zR [bN 20,zHB 21,kr 22 20,Te 0 21 0 5 23 21])))
def O8:aI:=⟨[.mp [.d,.sl (.own none) [.d],.sl (.ro []) [.d,.d],.sl (.own none) dF,.sl (.own none) [.d],.d,.d,.d,.d,.d,.d,.d,.sl (.own none) [.d,.d],.d,.sl (.own none) aaL],.rd true [.d,.d,.d,.d],.rd false [.d]],.u⟩
def CG:aH:=aA []
def CJ (n:Nat):dR × nM × Int->Option ((Unit) × Int × List Int × List aF × List (List Int) × List Int × Int × Int × Int × Int × Int × Int × Int × List aF × Int × List nL):=aC n CG CF [bC,fI,[.i .i64]] [] bC [] (.mp 0)
def u_:=CJ BIG
def O9:TSp:=⟨O8,[bC,fI,[.i .i64]],[],bC,Ou.j (.mp 0),u_⟩
theorem adp:aM PG CG 55 O8 (CF.ht 24) (.mp 0)=some (CF.wc CG,[]):=by kernel_rfl
theorem abl:O9.Ok PG 55:=aN (aj PG) adp (by kernel_rfl)
theorem adq (n) (a0) (a1) (a2):CJ n (a0,a1,a2) = bif decide (a0.2.2.2.2.2.2.2.2.2.2.2.2.2.2.length+([(a1.1,a1.1,a1.2.1,a1.2.2.1,a1.2.2.2,a2)]).length<=4294967296) then some ((),(a0.1,a0.2.1,a0.2.2.1,a0.2.2.2.1,a0.2.2.2.2.1,(0:Int),(0:Int),(0:Int),(0:Int),(0:Int),(0:Int),(0:Int),[],(0:Int),a0.2.2.2.2.2.2.2.2.2.2.2.2.2.2++([(a1.1,a1.1,a1.2.1,a1.2.2.1,a1.2.2.2,a2)]))) else none:=by kernel_rfl
def Ld:TC:=
 (zS [vX 6] (zS [S_ 10,bV 10 7 10] (zQ (.join [⟨7,[.sl [.i .i64,.i .i64]],false⟩] 144115188075854720 none (zS [bD 8] (.block 0 (.loop [⟨7,[.sl [.i .i64,.i .i64]],false⟩,⟨8,[.i .i64],false⟩] 144115188075854720 (zQ (zS [AL 11 8 1] (zC 14 .skip (.exit 0))) (zQ (.join [⟨7,[.sl [.i .i64,.i .i64]],false⟩] 144115188075725440 none (.block 1 (zS [OE 17 1 8 2 2,lG 9 1000000010,df 9 9 20] (zQ (.join [⟨52,[.b],false⟩] 9007199252643840 none (zR [AP 21 9 0 0,je 24 23,tH 25 24,XN 26 42 22 25,qf 27 26 6 9 1 6,eQ 30 0 6,zEq 31 30 6,zLC 32 31 6 42 29 6,kS 27 33 34,eQ 36 0 14,xe 37 14 9 0,mH 39 36 38 14,w_ 40 36 1 39 14,eQ 41 2 14,Tq 42 40 41 14 35,eQ 45 0 23,xe 46 23 9 1,mH 48 45 47 23,w_ 49 45 1 48 23,eQ 50 2 23,XM 51 49 50 23,lF 44 51 52])) (zC 52 (zR [bV 7 53 7,dw 54 9 2,EN 55 54 53 53 7]) .skip))))) (zR [dZ 15 8 8]))))))) (zS [qd 7 57 7 6] .ret))))
def Yd:aI:=⟨[.rd false dF,.rd false fE,.rd false [.d]],(.one false fE)⟩
def Lf:aH:=aA [(42,dG)]
def Lg (n:Nat):List Int × (List aF) × Int->Option ((List aF) × Unit):=aC n Lf Ld [[.sl [.i .i64]],[.sl [.i .i64,.i .i64]],[.i .i64]] [.sl [.i .i64,.i .i64]] [] [6] .no
def Lh:=Lg BIG
def Ye:TSp:=⟨Yd,[[.sl [.i .i64]],[.sl [.i .i64,.i .i64]],[.i .i64]],[.sl [.i .i64,.i .i64]],[],Ou.j .no,Lh⟩
theorem aj5:aM PG Lf 163 Yd (Ld.ht 58) .no=some (Ld.wc Lf,[6]):=by kernel_rfl
theorem ahm:Ye.Ok PG 163:=aN (ae dA (aj PG)) aj5 (by kernel_rfl)
theorem aj6 (n) (a0) (a1) (a2):Lg n (a0,a1,a2) = (aJ n (X:=(List aF) × Int) (B:=(List aF)) (fun self1 x0=> bif decide (x0.2<(a1.length:Int)) then (bnd a1.length x0.2 fun n2=> a1[n2]?.bind fun y3=> ((bf (y3.1,(0:Int),IntKind.wrap .i64 ((a0.length:Int)-(1:Int)))).bind fun r4=> bif r4.1 then (bf (y3.2,(0:Int),IntKind.wrap .i64 ((a0.length:Int)-(1:Int)))).bind fun r5=> bif r5.1 then bnd a0.length y3.1 fun n6=> a0[n6]?.bind fun y7=> bif decide (y7=a2) then bnd a0.length y3.2 fun n8=> a0[n8]?.bind fun y9=> some (decide (y9=a2)) else some false else some false else some false:Option (Bool)).bind fun x10=> bif x10 then bif decide (x0.1.length+[y3].length<=4294967296) then some (x0.1++[y3]) else none else some x0.1:Option ((List aF))).bind fun x11=> self1 (x11,IntKind.wrap .i64 (x0.2+(1:Int))) else some x0.1) ([],(0:Int)):Option ((List aF))).bind fun x12=> some (x12,()):=by kernel_rfl
def wB:TC:=
 (zS [bW 3 1,vX 4] (zS [S_ 7,bV 7 5 7] (zQ (.join [⟨5,[.sl [.i .i64,.i .i64]],false⟩] 134217568 none (zS [bD 6] (.block 0 (.loop [⟨5,[.sl [.i .i64,.i .i64]],false⟩,⟨6,[.i .i64],false⟩] 134217568 (zQ (zS [cB 8 6 0,tL 10 9 8] (zC 11 .skip (.exit 0))) (zQ (.join [⟨5,[.sl [.i .i64,.i .i64]],false⟩] 134201376 none (.block 1 (zS [OE 14 0 6 2 2,dw 18 3 2,zEB 19 17 18] (zC 19 (zR [bV 5 20 5,OE 21 0 6 2 2,EN 25 24 20 20 5]) .skip)))) (zR [dZ 12 6 6]))))))) (zS [qd 5 27 5 4] .ret))))
def Jt:aI:=⟨[.rd false fE,.rd true [.d,.d]],(.one false fE)⟩
def wC:aH:=aA []
def wD (n:Nat):(List aF) × aF->Option ((List aF) × Unit):=aC n wC wB [[.sl [.i .i64,.i .i64]],[.i .i64,.i .i64]] [.sl [.i .i64,.i .i64]] [] [4] .no
def oF:=wD BIG
def wE:TSp:=⟨Jt,[[.sl [.i .i64,.i .i64]],[.i .i64,.i .i64]],[.sl [.i .i64,.i .i64]],[],Ou.j .no,oF⟩
theorem YW:aM PG wC 131 Jt (wB.ht 28) .no=some (wB.wc wC,[4]):=by kernel_rfl
theorem ES:wE.Ok PG 131:=aN (aj PG) YW (by kernel_rfl)
theorem YX (n) (a0) (a1):wD n (a0,a1) = (aJ n (X:=(List aF) × Int) (B:=(List aF)) (fun self1 x0=> bif decide (x0.2<(a0.length:Int)) then (bnd a0.length x0.2 fun n2=> a0[n2]?.bind fun y3=> bif !(decide (y3.1=a1.1)&&(decide (y3.2=a1.2)&&true)) then bnd a0.length x0.2 fun n4=> a0[n4]?.bind fun y5=> bif decide (x0.1.length+[y5].length<=4294967296) then some (x0.1++[y5]) else none else some x0.1:Option ((List aF))).bind fun x6=> self1 (x6,IntKind.wrap .i64 (x0.2+(1:Int))) else some x0.1) ([],(0:Int)):Option ((List aF))).bind fun x7=> some (x7,()):=by kernel_rfl
def zn:TC:=
 (zS [bW 5 1,[o5 (.a (.t 3)) 7 3],bD 8] (zS [bN 9,OA 10 9 0 4,ai 13 2,tH 14 13,OM 15 12 14 0 4 1,yI 17 16,qP 18 7 7 0 17] (zS [bN 19,EP 20 5 4 2,gP 22 7 4,zHC,kr 24 19,zHD 0 23 12 15 0 5 25 23] (zS [kg 8 2] .ret))))
def Li:aI:=⟨[.mp [.d,.sl (.own none) [.d],.sl (.ro []) [.d,.d],.sl (.own none) dF,.sl (.own none) [.d],.d,.d,.d,.d,.d,.d,.d,.sl (.own none) [.d,.d],.d,.sl (.own none) aaL],.rd true [.d,.d,.d,.d],.rd false [.d],.tk true EC],(.one false [.d])⟩
def zo:aH:=aA []
def zq (n:Nat):dR × nM × Int × lU->Option ((Int) × Int × List Int × List aF × List (List Int) × List Int × Int × Int × Int × Int × Int × Int × Int × List aF × Int × List nL):=aC n zo zn [bC,fI,[.i .i64],eX] [.i .i64] bC [8] (.mp 0)
def zt:=zq BIG
def Lj:TSp:=⟨Li,[bC,fI,[.i .i64],eX],[.i .i64],bC,Ou.j (.mp 0),zt⟩
theorem abm:aM PG zo 57 Li (zn.ht 26) (.mp 0)=some (zn.wc zo,[8]):=by kernel_rfl
theorem YY:Lj.Ok PG 57:=aN (aj PG) abm (by kernel_rfl)
theorem abn (n) (a0) (a1) (a2) (a3):zq n (a0,a1,a2,a3) = bnd a0.2.2.2.2.1.length (IntKind.wrap .i64 (a2-(1:Int))) fun n0=> a0.2.2.2.2.1[n0]?.bind fun y1=> some ((2:Int),(a0.1,a0.2.1,a0.2.2.1,a0.2.2.2.1,a0.2.2.2.2.1,a1.1,a1.2.1,a1.2.2.1,a1.2.2.2,a2,IntKind.wrap .i64 (y1+(1:Int)),a3.2.1,a3.2.2.1,a3.2.2.2,a0.2.2.2.2.2.2.2.2.2.2.2.2.2.2)):=by kernel_rfl
def CK:TC:=
 (zS [bW 4 1,bD 6] (zS [bN 11,Tn 12 11 0 2,ai 7 14] (zQ (.join [⟨0,bC,false⟩,⟨7,[.sl [.i .i64,.i .i64]],false⟩] 68719444417 (some [⟨6,[.i .i64],false⟩,⟨0,bC,false⟩]) (zS [bD 8] (.block 0 (.loop [⟨0,bC,false⟩,⟨7,[.sl [.i .i64,.i .i64]],false⟩,⟨8,[.i .i64],false⟩] 68719444417 (zQ (zS [AL 15 8 2] (zC 18 .skip (.exit 0))) (zQ (.block 1 (zQ (zS [cB 21 7 2,ai 23 8,jq 24 22 23 2 2,fJ 26 143 21 25] (zC 26 (zS [bN 27,dw 28 4 4,zHE 55 0 28 3 29 0 29] (zS [kg 6 1] .ret)) .skip)) (zR [cB 30 7 2,ai 32 8,jq 33 31 32 2 2,fJ 35 130 30 34,zIa 35 35 35]))) (zR [dZ 19 8 8]))))))) (zS [Jo 36 0 1,kT 40 4 2 4 3,qb 44 39 41,XL 0 39 0 1 44 43] (zS [bN 45,ai 49 7,OA 46 45 0 1,bF 50 4 3,Ox 52 163 48 49 51,bV 52 9 52] (zQ (.join [⟨7,[.sl [.i .i64,.i .i64]],false⟩] 36884480948164363392 none (zS [bD 10] (.block 2 (.loop [⟨7,[.sl [.i .i64,.i .i64]],false⟩,⟨10,[.i .i64],false⟩] 36884480948164363392 (zQ (zS [ai 53 10,eU 54 9,tL 55 54 53] (zC 56 .skip (.exit 2))) (zQ (.block 3 (zR [ai 59 7,eU 60 9,ai 61 10,Ki 62 60 61 9 2 2,fJ 64 131 59 63,zIa 64 64 64])) (zR [OJ 57 10]))))))) (zS [Jn 65 7,kr 67 65,[o4 1 [0,44,48] (.store 0 [] 2 (.t 68) (.t 66))]] (zQ (zS [eU 69 9,je 70 69,tJ 71 70 0] (zC 71 (zS [bN 72,dw 73 4 4,zHE 55 0 73 1 74 0 74] (zS [kg 6 1] .ret)) .skip)) (zS [bN 75,dw 76 4 4,bF 77 4 3,zIb 9 79 9 54 69 79,zIc 79 80 79 80,zId 57 0 76 78 80 81 0 80 81,ai 6 81] .ret)))))))))
def O_:aI:=⟨[.mp [.d,.sl (.own none) [.d],.sl (.ro []) [.d,.d],.sl (.own none) dF,.sl (.own none) [.d],.d,.d,.d,.d,.d,.d,.d,.sl (.own none) [.d,.d],.d,.sl (.own none) aaL],.rd true [.d,.d,.d,.d],.rd false fE],(.one false [.d])⟩
def CL:aH:=aA [(143,qi),(55,O9),(130,qj),(163,Ye),(131,wE),(57,Lj)]
def CO (n:Nat):dR × nM × (List aF)->Option ((Int) × Int × List Int × List aF × List (List Int) × List Int × Int × Int × Int × Int × Int × Int × Int × List aF × Int × List nL):=aC n CL CK [bC,fI,[.sl [.i .i64,.i .i64]]] [.i .i64] bC [6] (.mp 0)
def CP:=CO BIG
def Pb:TSp:=⟨O_,[bC,fI,[.sl [.i .i64,.i .i64]]],[.i .i64],bC,Ou.j (.mp 0),CP⟩
theorem adr:aM PG CL 81 O_ (CK.ht 82) (.mp 0)=some (CK.wc CL,[6]):=by kernel_rfl
theorem abo:Pb.Ok PG 81:=aN (ae qW (ae abl (ae rE (ae ahm (ae ES (ae YY (aj PG))))))) adr (by kernel_rfl)
theorem ads (n) (a0) (a1) (a2):CO n (a0,a1,a2) = (aJ n (X:=dR × (List aF) × Int) (B:=(dR × (List aF)) ⊕ Zt1) (fun self1 x0=> bif decide (x0.2.2<(a2.length:Int)) then bnd a2.length x0.2.2 fun n2=> a2[n2]?.bind fun y3=> (mM (x0.2.1,y3)).bind fun r4=> bif r4.1 then (u_ (x0.1,a1,(3:Int))).bind fun r5=> some (Sum.inr ((1:Int),r5.2)) else bnd a2.length x0.2.2 fun n6=> a2[n6]?.bind fun y7=> (mP (x0.2.1,y7)).bind fun r8=> self1 (x0.1,r8.1,IntKind.wrap .i64 (x0.2.2+(1:Int))) else some (Sum.inl (x0.1,x0.2.1))) (a0,a0.2.2.1,(0:Int)):Option ((dR × (List aF)) ⊕ Zt1)).bind fun y=>match y with | .inl x9=> bnd x9.1.2.1.length a1.2.2.1 fun n10=> x9.1.2.1[n10]?.bind fun y11=> (Lh (x9.1.2.1.set n10 a1.2.2.2,x9.2,a1.2.2.2)).bind fun r12=> (aJ n (X:=(List aF) × Int) (B:=(List aF)) (fun self14 x13=> bif decide (x13.2<(r12.1.length:Int)) then bnd r12.1.length x13.2 fun n15=> r12.1[n15]?.bind fun y16=> (oF (x13.1,y16)).bind fun r17=> self14 (r17.1,IntKind.wrap .i64 (x13.2+(1:Int))) else some x13.1) (x9.2,(0:Int)):Option ((List aF))).bind fun x18=> bif decide ((r12.1.length:Int)=(0:Int)) then (u_ ((x9.1.1,x9.1.2.1.set n10 a1.2.2.2,x18,x9.1.2.2.2),a1,(1:Int))).bind fun r19=> some ((1:Int),r19.2) else (zt ((x9.1.1,x9.1.2.1.set n10 a1.2.2.2,x18,x9.1.2.2.2),a1,a1.2.2.2,((0:Int),(4:Int),r12.1,(0:Int)))).bind fun r20=> some (r20.1,r20.2) | .inr x9=> some (x9.1,x9.2):=by kernel_rfl
def Ll:TC:=
 (zS [bW 4 1] (zS [bN 6,bN 7,ai 14 2,kQ 8 7,yJ 9 8,zBr 10 0 14 9,bF 11 4 0,dw 13 4 4,zHz 15 12 13 14,zHA 16 15,zBs 10 10 16 17 10 10 0 17,kr 18 6,zBt 0 17 10 0 14 19 17] (zR [bN 20,zHB 21,kr 22 20,Te 0 21 0 5 23 21])))
def Yf:aI:=⟨[.mp l6,.rd true [.d,.d,.d,.d],.rd false [.d]],.u⟩
def Lm:aH:=aA []
def Lp (n:Nat):dR × nM × Int->Option ((Unit) × Int × List Int × List aF × List (List Int) × List Int × Int × Int × Int × Int × Int × Int × Int × List aF × Int × List nL):=aC n Lm Ll [bC,fI,[.i .i64]] [] bC [] (.mp 0)
def kW:=Lp BIG
def Be:TSp:=⟨Yf,[bC,fI,[.i .i64]],[],bC,Ou.j (.mp 0),kW⟩
theorem aj7:aM PG Lm 55 Yf (Ll.ht 24) (.mp 0)=some (Ll.wc Lm,[]):=by kernel_rfl
theorem G8:Be.Ok PG 55:=aN (aj PG) aj7 (by kernel_rfl)
theorem aj8 (n) (a0) (a1) (a2):Lp n (a0,a1,a2) = bif decide (a0.2.2.2.2.2.2.2.2.2.2.2.2.2.2.length+([(a1.1,a1.1,a1.2.1,a1.2.2.1,a1.2.2.2,a2)]).length<=4294967296) then some ((),(a0.1,a0.2.1,a0.2.2.1,a0.2.2.2.1,a0.2.2.2.2.1,(0:Int),(0:Int),(0:Int),(0:Int),(0:Int),(0:Int),(0:Int),[],(0:Int),a0.2.2.2.2.2.2.2.2.2.2.2.2.2.2++([(a1.1,a1.1,a1.2.1,a1.2.2.1,a1.2.2.2,a2)]))) else none:=by kernel_rfl
def V3:TC:=
 (zS [bW 3 0,bW 5 2,qM 6 1000000007,bD 7] (zS [vY 12 3 15 51,qM 8 1000000009,dW 8 13 8 13] (zQ (.seq (.join [⟨44,[.b],false⟩] 35184372072448 none (zR [dw 14 3 15,dX 15 52 14,kI 16 15,iJ 18 3 3 0 3,OG 20 5 4 3 80 19 3,qc 22 21 3 17,AB 25 3 15 10,XO 39 25 26 26 10,qc 27 26 10 24,eZ 30 1 15,XR 31 15,w9 33 3 9 32 15,EM 34 30 33 15 29,ai 36 35,EJ 37 22 5 0,XR 39 22,AC 41 40 22,w9 42 3 10 41 22,EM 43 38 42 22 36])) (zC 44 (zS [nY 45 8 15 6 6 8,bD 7] .ret) .skip)) (zS [Kk 46 3 5 9,zHv 9 1000000010,df 9 9 47] (zS [jr 48 8 4,ai 50 1,tH 51 50,bF 52 5 0,qb 54 49 51,XL 8 49 8 4 54 53] (zS [ai 57 1,jr 55 8 3,tH 58 57,S9 59,bF 60 5 3,vU 59 61 62 59,qb 63 56 58,[o4 2 [8,62,48,54,63,56,55] (.store 8 [(3,1)] 0 (.t 63) (.t 62))]] (zQ (.seq (.join [⟨73,[.b],false⟩] 18871019187404871303168 none (zR [Tm 64 9 1,tJ 67 66 4,ai 68 67,ko 69 4,yL 70 69 4,tF 71 9 6 70 4,[o2 72 (.data (.bin .eql) [.t 71,kD 3]) 4 true],lF 68 72 73])) (zC 73 (zS [Kk 74 9 0 4,bF 76 5 2,[⟨false,[],[3000008002],.call 2 81 [.t 8,.t 75,.t 77] (.mp 0),[78,8,8],(some 78),none⟩],ai 10 78] (zS [gP 79 8 15,dX 80 51 79,ai 81 10,vZ 6 80 6 80] .ret)) .skip)) (zS [kg 11 1] (zQ (.join [⟨11,[.i .i64],false⟩] 2471044375292302033099425792 none (zQ (.join [⟨90,[.b],false⟩] 2471044375292302033099423744 none (zR [Tm 82 9 1,zDf 85 84 4,qf 86 85 4 5 1 4,zDz 89 88 4,lF 86 89 90])) (zC 90 (zR [kg 11 2]) .skip))) (zS [Kk 91 9 0 4,ai 93 11,zIe 55 8 92 93 94 8 94] (zS [nY 95 8 15 6 6 8,kg 7 1] .ret)))))))))))
def afr:aI:=⟨[.rd true l6,.rd false [.d],.rd true Az],(.tup [(true,15),(false,1)] Ct0)⟩
def V4:aH:=aA [(51,xJ),(52,Lc),(80,Cu),(39,EQ),(81,Pb),(55,Be)]
def V5 (n:Nat):dR × Int × iC->Option (Zt2 × Unit):=aC n V4 V3 [bC,[.i .i64],fQ] Ty1 [] [6,7] .no
def yf:=V5 BIG
def V6:TSp:=⟨afr,[bC,[.i .i64],fQ],Ty1,[],Ou.j .no,yf⟩
theorem aos:aM PG V4 19 afr (V3.ht 96) .no=some (V3.wc V4,[6,7]):=by kernel_rfl
theorem abp:V6.Ok PG 19:=aN (ae Cw (ae Uk (ae KP (ae F3 (ae abo (ae G8 (aj PG))))))) aos (by kernel_rfl)
theorem aot (n) (a0) (a1) (a2):V5 n (a0,a1,a2) = (lh a0).bind fun r0=> ((Bd a0).bind fun r1=> bif !r1.1 then some true else (u6 (a0.1,a2)).bind fun r2=> bif !r2.1 then some true else (nz a0).bind fun r3=> bif !r3.1 then some true else bif !decide (a1=a0.2.2.2.2.2.2.2.2.2.1) then some true else some (!decide (a2.1=a0.2.2.2.2.2.2.2.2.2.2.1)):Option (Bool)).bind fun x4=> bif x4 then some ((r0.1.1,r0.1.2.1,r0.1.2.2.1,r0.1.2.2.2.1,r0.1.2.2.2.2.1,r0.1.2.2.2.2.2.1,r0.1.2.2.2.2.2.2.1,r0.1.2.2.2.2.2.2.2.1,r0.1.2.2.2.2.2.2.2.2.1,r0.1.2.2.2.2.2.2.2.2.2.1,r0.1.2.2.2.2.2.2.2.2.2.2.1,r0.1.2.2.2.2.2.2.2.2.2.2.2.1,r0.1.2.2.2.2.2.2.2.2.2.2.2.2.1,r0.1.2.2.2.2.2.2.2.2.2.2.2.2.2.1,r0.1.2.2.2.2.2.2.2.2.2.2.2.2.2.2,(0:Int)),()) else bnd r0.1.2.2.2.2.1.length (IntKind.wrap .i64 (a1-(1:Int))) fun n5=> r0.1.2.2.2.2.1[n5]?.bind fun y6=> bif decide (0+a2.2.2.2.length<=4294967296) then bnd r0.1.2.2.2.1.length (IntKind.wrap .i64 (a1-(1:Int))) fun n7=> r0.1.2.2.2.1[n7]?.bind fun y8=> (bif decide (a0.2.2.2.2.2.2.1=(4:Int)) then some (decide (a0.2.2.2.2.2.2.2.2.2.2.2.1=(3:Int))) else some false:Option (Bool)).bind fun x9=> bif x9 then (CP ((r0.1.1,r0.1.2.1,r0.1.2.2.1,r0.1.2.2.2.1.set n7 ([]++a2.2.2.2),r0.1.2.2.2.2.1.set n5 a2.1,r0.1.2.2.2.2.2),(a0.2.2.2.2.2.1,a0.2.2.2.2.2.2.1,a0.2.2.2.2.2.2.2.1,a0.2.2.2.2.2.2.2.2.1),a2.2.2.1)).bind fun r10=> (lh r10.2).bind fun r11=> some ((r11.1.1,r11.1.2.1,r11.1.2.2.1,r11.1.2.2.2.1,r11.1.2.2.2.2.1,r11.1.2.2.2.2.2.1,r11.1.2.2.2.2.2.2.1,r11.1.2.2.2.2.2.2.2.1,r11.1.2.2.2.2.2.2.2.2.1,r11.1.2.2.2.2.2.2.2.2.2.1,r11.1.2.2.2.2.2.2.2.2.2.2.1,r11.1.2.2.2.2.2.2.2.2.2.2.2.1,r11.1.2.2.2.2.2.2.2.2.2.2.2.2.1,r11.1.2.2.2.2.2.2.2.2.2.2.2.2.2.1,r11.1.2.2.2.2.2.2.2.2.2.2.2.2.2.2,r10.1),()) else ((bif !decide (a0.2.2.2.2.2.2.1=(4:Int)) then some !a2.2.1 else some false:Option (Bool)).bind fun x12=> bif x12 then some (2:Int) else some (1:Int):Option (Int)).bind fun x13=> (kW ((r0.1.1,r0.1.2.1,r0.1.2.2.1,r0.1.2.2.2.1.set n7 ([]++a2.2.2.2),r0.1.2.2.2.2.1.set n5 a2.1,r0.1.2.2.2.2.2),(a0.2.2.2.2.2.1,a0.2.2.2.2.2.2.1,a0.2.2.2.2.2.2.2.1,a0.2.2.2.2.2.2.2.2.1),x13)).bind fun r14=> some ((r14.2.1,r14.2.2.1,r14.2.2.2.1,r14.2.2.2.2.1,r14.2.2.2.2.2.1,r14.2.2.2.2.2.2.1,r14.2.2.2.2.2.2.2.1,r14.2.2.2.2.2.2.2.2.1,r14.2.2.2.2.2.2.2.2.2.1,r14.2.2.2.2.2.2.2.2.2.2.1,r14.2.2.2.2.2.2.2.2.2.2.2.1,r14.2.2.2.2.2.2.2.2.2.2.2.2.1,r14.2.2.2.2.2.2.2.2.2.2.2.2.2.1,r14.2.2.2.2.2.2.2.2.2.2.2.2.2.2.1,r14.2.2.2.2.2.2.2.2.2.2.2.2.2.2.2,(1:Int)),()) else none:=by kernel_rfl
def wF:TC:=
 (zS [bD 4] (zS [ai 5 1,Jn 6 1,je 8 7,jC 112 8 9 9,EL 10 5 9 5 1,ai 4 11] .ret))
def Ju:aI:=⟨[.mp [.sl (.ro []) [.d],.d,.d],.rd false dF],(.one false [.d])⟩
def wG:aH:=aA [(112,dY)]
def wH (n:Nat):(List Int × Int × Int) × List (Int)->Option ((Int) × List Int × Int × Int):=aC n wG wF [bg,[.sl [.i .i64]]] [.i .i64] bg [4] (.mp 0)
def bM:=wH BIG
def gW:TSp:=⟨Ju,[bg,[.sl [.i .i64]]],[.i .i64],bg,Ou.j (.mp 0),bM⟩
theorem YZ:aM PG wG 125 Ju (wF.ht 12) (.mp 0)=some (wF.wc wG,[4]):=by kernel_rfl
theorem ig:gW.Ok PG 125:=aN (ae dU (aj PG)) YZ (by kernel_rfl)
theorem Y0 (n) (a0) (a1):wH n (a0,a1) = (bA (a0,(a1.length:Int))).bind fun r0=> bnd a1.length r0.1 fun n1=> a1[n1]?.bind fun y2=> some (y2,r0.2):=by kernel_rfl
def Lr:TC:=
 (zS [zIg 8 1000000009] (zS [ai 10 3,bN 11,[⟨false,[],[],.det 10 (.sli [.i .i64] [kO 1,kO 1,kO 1,kO 1,kO 2,kO 2,kO 3,kO 3,kO 4]),[12,1000000001,1000000002,1000000003,1000000004,1000000005,1000000006,1000000007,1000000008,1000000009],(some 12),none⟩],jC 125 12 13 13,Tj 14 1 112,Tj 17 1 112,[o1 20 (.build fI [(0,.t 10),(1,.t 13),(2,.t 16),(3,.t 19)])],zIg 9 1000000010,df 9 9 20] (zQ (.join [⟨0,bg,false⟩,⟨9,fI,false⟩] 534774273 none (zS [bF 21 9 1,tJ 23 22 4] (zC 23 (zR [Tj 24 2 112,SY 27 1 26,qP 28 9 9 3 27]) .skip))) (zQ (.join [⟨0,bg,false⟩,⟨9,fI,false⟩] 2251799276814849 none (zS [EO 29 112 30] (.block 0 (zS [Kl 32 30 0] (zC 31 (zR [Jn 33 1,[⟨false,[],[],.det 4 (.sli [.i .i64] [kO (-1),.t 34,kO 11,kO 12]),[35,1000000001,1000000003,1000000004],(some 35),none⟩],jC 125 35 36 36,qP 37 9 9 2 36]) (zS [jD 39 30 1 38] (zC 38 (zR [Jn 40 1,[⟨false,[],[],.det 4 (.sli [.i .i64] [kO (-1),kO 0,.t 41,kO 12]),[42,1000000001,1000000002,1000000004],(some 42),none⟩],jC 125 42 43 43,qP 44 9 9 3 43]) (zS [jD 46 30 2 45] (zC 45 (zR [bN 47,[⟨false,[],[],.det 3 (.sli [.i .i64] [kO 0,kO 5]),[48,1000000001,1000000002],(some 48),none⟩],jC 125 48 49 49,qP 50 9 9 1 49]) .skip))))))))) (zS [dw 51 9 4,df 8 8 51] .ret)))))
def Yg:aI:=⟨[.mp [.sl (.ro []) [.d],.d,.d],.rd false [.d],.rd false [.d],.rd false [.d]],(.one true [.d,.d,.d,.d])⟩
def Ls:aH:=aA [(125,gW),(112,dY)]
def Lt (n:Nat):(List Int × Int × Int) × Int × Int × Int->Option (nM × List Int × Int × Int):=aC n Ls Lr [bg,[.i .i64],[.i .i64],[.i .i64]] fI bg [8] (.mp 0)
def Bf:=Lt BIG
def Lu:TSp:=⟨Yg,[bg,[.i .i64],[.i .i64],[.i .i64]],fI,bg,Ou.j (.mp 0),Bf⟩
theorem aj9:aM PG Ls 41 Yg (Lr.ht 52) (.mp 0)=some (Lr.wc Ls,[8]):=by kernel_rfl
theorem Ul:Lu.Ok PG 41:=aN (ae ig (ae dU (aj PG))) aj9 (by kernel_rfl)
theorem aj_ (n) (a0) (a1) (a2) (a3):Lt n (a0,a1,a2,a3) = (bM (a0,[(1:Int),(1:Int),(1:Int),(1:Int),(2:Int),(2:Int),(3:Int),(3:Int),(4:Int)])).bind fun r0=> (bA (r0.2,a1)).bind fun r1=> (bA (r1.2,a1)).bind fun r2=> (bif decide (r0.1=(4:Int)) then (bA (r2.2,a2)).bind fun r3=> some (r3.2,(a3,r0.1,r1.1,IntKind.wrap .i64 ((1:Int)+r3.1))) else some (r2.2,(a3,r0.1,r1.1,r2.1)):Option ((List Int × Int × Int) × nM)).bind fun x4=> ((bA (x4.1,(30:Int))).bind fun r5=> bif decide (r5.1=(0:Int)) then (bM (r5.2,[(-1:Int),a1,(11:Int),(12:Int)])).bind fun r6=> some (r6.2,(x4.2.1,x4.2.2.1,r6.1,x4.2.2.2.2)) else bif decide (r5.1=(1:Int)) then (bM (r5.2,[(-1:Int),(0:Int),a1,(12:Int)])).bind fun r7=> some (r7.2,(x4.2.1,x4.2.2.1,x4.2.2.2.1,r7.1)) else bif decide (r5.1=(2:Int)) then (bM (r5.2,[(0:Int),(5:Int)])).bind fun r8=> some (r8.2,(x4.2.1,r8.1,x4.2.2.2)) else some (r5.2,x4.2):Option ((List Int × Int × Int) × nM)).bind fun x9=> some (x9.2,x9.1):=by kernel_rfl
def uC:TC:=
 (zS [EF 6,aZ 7] (zS [S_ 12,bV 12 8 12] (zQ (.seq (.join [⟨25,[.b],false⟩] 67100672 none (zR [ai 13 0,nH 14 42 13 12,kI 15 14,eZ 17 1 3,zEu 18 17 3,zDv 19 18 3 3,tC 16 19 20,ai 21 20,eZ 22 2 8,zEu 23 22 8,zDv 24 23 1000 8,tC 21 24 25])) (zC 25 (zS [Tp 26 6,aZ 7] .ret) .skip)) (zQ (.join [⟨8,[.sl [.i .i64,.i .i64]],false⟩] 302231454903657159460800 (some [⟨6,[.sl [.i .i64]],false⟩,⟨7,[.b],false⟩]) (zS [bD 9] (.block 0 (.loop [⟨8,[.sl [.i .i64,.i .i64]],false⟩,⟨9,[.i .i64],false⟩] 302231454903657159460800 (zQ (zS [AL 27 9 1] (zC 30 .skip (.exit 0))) (zQ (.join [⟨8,[.sl [.i .i64,.i .i64]],false⟩] 302231454903648703743424 (some [⟨6,[.sl [.i .i64]],false⟩,⟨7,[.b],false⟩]) (.block 1 (zQ (zS [OC 33 1 9 1,je 37 36,ai 38 0,tK 39 37 38] (zC 39 (zS [Tp 40 6,aZ 7] .ret) .skip)) (zS [bD 10] (.block 2 (.loop [⟨8,[.sl [.i .i64,.i .i64]],false⟩,⟨10,[.i .i64],false⟩] 302231454901458270422464 (zQ (zS [OD 41 10 0] (zC 43 .skip (.exit 2))) (zQ (.join [⟨8,[.sl [.i .i64,.i .i64]],false⟩] 302231454833288549499328 (some [⟨6,[.sl [.i .i64]],false⟩,⟨7,[.b],false⟩]) (.block 3 (zQ (zS [OC 46 1 9 1,ai 50 10,ku 51 49 50 1,ai 53 10,XN 54 42 52 53,iH 55 54] (zC 55 (zS [Tp 56 6,aZ 7] .ret) .skip)) (zS [OC 57 1 9 1,ai 61 10,ku 62 60 61 1,ai 64 10,eD 65 63 64] (zC 65 (zR [bV 8 66 8,OC 67 1 9 1,ai 71 10,ku 72 70 71 1,ai 74 10,AA 75 73 74,EN 76 75 66 66 8]) .skip))))) (zR [OJ 44 10]))))))))) (zR [dZ 31 9 9]))))))) (zQ (.join [⟨8,[.sl [.i .i64,.i .i64]],false⟩] 633824997882659797091057928640 (some [⟨6,[.sl [.i .i64]],false⟩,⟨7,[.b],false⟩]) (zS [bD 11] (.block 4 (.loop [⟨8,[.sl [.i .i64,.i .i64]],false⟩,⟨11,[.i .i64],false⟩] 633824997882659797091057928640 (zQ (zS [AL 78 11 2] (zC 81 .skip (.exit 4))) (zQ (.block 5 (zQ (zS [cB 84 0 2,ai 86 11,jq 87 85 86 2 2,fJ 89 128 84 88,iH 90 89] (zC 90 (zS [Tp 91 6,aZ 7] .ret) .skip)) (zR [bV 8 92 8,OE 93 2 11 2 2,EN 97 96 92 92 8]))) (zR [OJ 82 11]))))))) (zS [ai 99 0,bV 8 100 8,fJ 101 142 99 100,bV 101 6 101,gH 7] .ret))))))
def ET:aI:=⟨[.rd false [.d],.rd false [.sl (.own none) dF],.rd false fE],(.tup [(false,1),(false,1)] al4)⟩
def uD:aH:=aA [(42,dG),(128,v_),(142,mK)]
def uE (n:Nat):Int × List (List Int) × (List aF)->Option ((List Int × Bool) × Unit):=aC n uD uC [[.i .i64],[.sl [.sl [.i .i64]]],[.sl [.i .i64,.i .i64]]] [.sl [.i .i64],.b] [] [6,7] .no
def uF:=uE BIG
def EU:TSp:=⟨ET,[[.i .i64],[.sl [.sl [.i .i64]]],[.sl [.i .i64,.i .i64]]],[.sl [.i .i64],.b],[],Ou.j .no,uF⟩
theorem V7:aM PG uD 56 ET (uC.ht 102) .no=some (uC.wc uD,[6,7]):=by kernel_rfl
theorem Um:EU.Ok PG 56:=aN (ae dA (ae xC (ae oD (aj PG)))) V7 (by kernel_rfl)
theorem V8 (n) (a0) (a1) (a2):uE n (a0,a1,a2) =
 ((bf (a0,(1:Int),(12:Int))).bind fun r0=>
  bif !r0.1 then
   some true
  else bif decide ((3:Int)<(a1.length:Int)) then
   some true
  else some (decide ((1000:Int)<(a2.length:Int))):Option (Bool)).bind fun x1=>
 bif x1 then
  some (([],false),())
 else (aJ n (X:=(List aF) × Int) (B:=((List aF)) ⊕ ((List Int) × Bool)) (fun self3 x2=>
  bif decide (x2.2<(a1.length:Int)) then
   (bnd a1.length x2.2 fun n4=>
    a1[n4]?.bind fun y5=>
    bif !decide ((y5.length:Int)=a0) then
     some (Sum.inr ([],false))
    else aJ n (X:=(List aF) × Int) (B:=((List aF)) ⊕ ((List Int) × Bool)) (fun self7 x6=>
     bif decide (x6.2<a0) then
      (bnd a1.length x2.2 fun n8=>
       a1[n8]?.bind fun y9=>
       bnd y9.length x6.2 fun n10=>
       y9[n10]?.bind fun y11=>
       (bf (y11,(0:Int),x6.2)).bind fun r12=>
       bif !r12.1 then
        some (Sum.inr ([],false))
       else bnd a1.length x2.2 fun n13=>
       a1[n13]?.bind fun y14=>
       bnd y14.length x6.2 fun n15=>
       y14[n15]?.bind fun y16=>
       bif decide (y16<x6.2) then
        bnd a1.length x2.2 fun n17=>
        a1[n17]?.bind fun y18=>
        bnd y18.length x6.2 fun n19=>
        y18[n19]?.bind fun y20=>
        bif decide (x6.1.length+([(y20,x6.2)]).length<=4294967296) then
         some (Sum.inl (x6.1++([(y20,x6.2)])))
        else none
       else some (Sum.inl x6.1):Option (((List aF)) ⊕ ((List Int) × Bool))).bind fun y=>match y with
      | .inl x21=>
       self7 (x21,IntKind.wrap .i64 (x6.2+(1:Int)))
      | .inr x21=>
       some (Sum.inr (x21.1,x21.2))
     else some (Sum.inl x6.1)) (x2.1,(0:Int)):Option (((List aF)) ⊕ ((List Int) × Bool))).bind fun y=>match y with
   | .inl x22=>
    self3 (x22,IntKind.wrap .i64 (x2.2+(1:Int)))
   | .inr x22=>
    some (Sum.inr (x22.1,x22.2))
  else some (Sum.inl x2.1)) ([],(0:Int)):Option (((List aF)) ⊕ ((List Int) × Bool))).bind fun y=>match y with
 | .inl x23=>
  (aJ n (X:=(List aF) × Int) (B:=((List aF)) ⊕ ((List Int) × Bool)) (fun self25 x24=>
   bif decide (x24.2<(a2.length:Int)) then
    bnd a2.length x24.2 fun n26=>
    a2[n26]?.bind fun y27=>
    (qg (a0,y27)).bind fun r28=>
    bif !r28.1 then
     some (Sum.inr ([],false))
    else bnd a2.length x24.2 fun n29=>
    a2[n29]?.bind fun y30=>
    bif decide (x24.1.length+[y30].length<=4294967296) then
     self25 (x24.1++[y30],IntKind.wrap .i64 (x24.2+(1:Int)))
    else none
   else some (Sum.inl x24.1)) (x23,(0:Int)):Option (((List aF)) ⊕ ((List Int) × Bool))).bind fun y=>match y with
  | .inl x31=>
   (kK (a0,x31)).bind fun r32=>
   some ((r32.1,true),())
  | .inr x31=>
   some (x31,())
 | .inr x23=>
  some (x23,()):=by kernel_rfl
def G9:TC:=
 (zS [bW 5 1,[o5 (.a (.t 3)) 7 3],bD 8] (zS [bN 9,OA 10 9 0 4,ai 13 2,tH 14 13,OM 15 12 14 0 4 1,yI 17 16,qP 18 7 7 0 17] (zS [bN 19,EP 20 5 4 2,gP 22 7 4,zHC,kr 24 19,zHD 0 23 12 15 0 5 25 23] (zS [kg 8 2] .ret))))
def Un:aI:=⟨[.mp l6,.rd true [.d,.d,.d,.d],.rd false [.d],.tk true EC],(.one false [.d])⟩
def G_:aH:=aA []
def Ha (n:Nat):dR × nM × Int × lU->Option ((Int) × Int × List Int × List aF × List (List Int) × List Int × Int × Int × Int × Int × Int × Int × Int × List aF × Int × List nL):=aC n G_ G9 [bC,fI,[.i .i64],eX] [.i .i64] bC [8] (.mp 0)
def xL:=Ha BIG
def He:TSp:=⟨Un,[bC,fI,[.i .i64],eX],[.i .i64],bC,Ou.j (.mp 0),xL⟩
theorem ahn:aM PG G_ 57 Un (G9.ht 26) (.mp 0)=some (G9.wc G_,[8]):=by kernel_rfl
theorem Pd:He.Ok PG 57:=aN (aj PG) ahn (by kernel_rfl)
theorem aho (n) (a0) (a1) (a2) (a3):Ha n (a0,a1,a2,a3) = bnd a0.2.2.2.2.1.length (IntKind.wrap .i64 (a2-(1:Int))) fun n0=> a0.2.2.2.2.1[n0]?.bind fun y1=> some ((2:Int),(a0.1,a0.2.1,a0.2.2.1,a0.2.2.2.1,a0.2.2.2.2.1,a1.1,a1.2.1,a1.2.2.1,a1.2.2.2,a2,IntKind.wrap .i64 (y1+(1:Int)),a3.2.1,a3.2.2.1,a3.2.2.2,a0.2.2.2.2.2.2.2.2.2.2.2.2.2.2)):=by kernel_rfl
def Hf:TC:=
 (zS [bW 1 0,lG 2 1000000003] (zQ (zS [fK 3 1 2 3,fK 5 1 3 5,eD 7 4 6] (zC 7 (zS [fK 8 1 2 8,bF 10 1 3,AA 12 9 11,df 2 2 12] .ret) .skip)) (zS [kT 13 1 3 1 2,AA 17 14 16,df 2 2 17] .ret)))
def Uo:aI:=⟨[.rd true [.d,.d,.d,.d]],(.one true [.d,.d])⟩
def Hg:aH:=aA []
def Hl (n:Nat):nM->Option (aF × Unit):=aC n Hg Hf [fI] [.i .i64,.i .i64] [] [2] .no
def Hm:=Hl BIG
def Uq:TSp:=⟨Uo,[fI],[.i .i64,.i .i64],[],Ou.j .no,Hm⟩
theorem ahp:aM PG Hg 45 Uo (Hf.ht 18) .no=some (Hf.wc Hg,[2]):=by kernel_rfl
theorem adt:Uq.Ok PG 45:=aN (aj PG) ahp (by kernel_rfl)
theorem ahq (n) (a0):Hl n a0 = bif decide (a0.2.2.1<a0.2.2.2) then some (a0.2.2,()) else some ((a0.2.2.2,a0.2.2.1),()):=by kernel_rfl
def zu:TC:=
 (zS [bW 3 1,bD 4] (zS [dw 8 3 4,dX 9 45 8,lG 5 1000000006,df 5 5 9] (zS [kg 6 1] (zQ (.join [⟨6,[.i .i64],false⟩] 7232 none (zS [bF 10 3 1,tJ 12 11 2] (zC 12 (zR [kg 6 2]) .skip))) (zQ (zS [bN 13,bN 21,OA 14 13 0 1,bF 17 5 0,OM 19 16 18 0 1 1,OA 22 21 0 1,bF 25 5 1,OM 27 24 26 0 1 1,mI 29 20 28] (zC 29 (zS [bN 30,bN 32,ai 40 6,dw 31 3 4,OA 33 32 0 1,bF 36 5 0,OM 38 35 37 0 1 1,dw 41 5 2,Kg 42 41,[o5 (.build eX [(1,.t 40),(2,.t 42)]) 43 42,⟨false,[],[],.call 3 57 [.t 0,.t 31,.t 39,.t 43] (.mp 0),[44,0,43,16,19,24,27,38,35],(some 44),none⟩],ai 4 44] .ret) .skip)) (zS [Jo 45 0 2,xf 49 5 2 143 48,ai 7 50] (zQ (zS [OB 51 7 3 1,tJ 54 53 1,[o1 55 (.data (.beq false) [.t 51,.t 54])]] (zC 55 (zS [bN 56,dw 57 3 4,[⟨false,[],[],.call 2 55 [.t 0,.t 57,kO 2] (.mp 0),[58,0,16,19,24,27,48],(some 58),none⟩]] (zS [kg 4 1] .ret)) .skip)) (zQ (.join [⟨0,bC,false⟩] 302230878724380118548481 none (zS [ai 59 7] (zC 59 (zR [bN 60,Jo 61 0 2,xf 65 5 2 131 64,kr 67 60,zIh 66 64 68 66]) (zR [bN 69,Jo 70 0 2,xf 74 5 2 130 73,kr 76 69,zIh 75 73 77 75])))) (zS [bN 78,dw 79 3 4,zHE 55 0 79 1 80 0 80] (zS [kg 4 1] .ret))))))))))
def Lv:aI:=⟨[.mp l6,.rd true [.d,.d,.d,.d]],(.one false [.d])⟩
def zw:aH:=aA [(45,Uq),(57,He),(143,qi),(55,Be),(131,wE),(130,qj)]
def zx (n:Nat):dR × nM->Option ((Int) × Int × List Int × List aF × List (List Int) × List Int × Int × Int × Int × Int × Int × Int × Int × List aF × Int × List nL):=aC n zw zu [bC,fI] [.i .i64] bC [4] (.mp 0)
def zy:=zx BIG
def Lx:TSp:=⟨Lv,[bC,fI],[.i .i64],bC,Ou.j (.mp 0),zy⟩
theorem abq:aM PG zw 58 Lv (zu.ht 81) (.mp 0)=some (zu.wc zw,[4]):=by kernel_rfl
theorem Y1:Lx.Ok PG 58:=aN (ae adt (ae Pd (ae qW (ae G8 (ae ES (ae rE (aj PG))))))) abq (by kernel_rfl)
theorem abr (n) (a0) (a1):zx n (a0,a1) = (Hm a1).bind fun r0=> (bif decide (a1.2.1=(2:Int)) then some (2:Int) else some (1:Int):Option (Int)).bind fun x1=> bnd a0.2.1.length r0.1.1 fun n2=> a0.2.1[n2]?.bind fun y3=> bnd a0.2.1.length r0.1.2 fun n4=> a0.2.1[n4]?.bind fun y5=> bif decide (y3=y5) then bnd a0.2.1.length r0.1.1 fun n6=> a0.2.1[n6]?.bind fun y7=> (xL (a0,a1,y7,((0:Int),x1,[r0.1],(0:Int)))).bind fun r8=> some (r8.1,r8.2) else (mM (a0.2.2.1,r0.1)).bind fun r9=> bif (r9.1 == (decide (a1.2.1=(1:Int)))) then (kW (a0,a1,(2:Int))).bind fun r10=> some ((1:Int),r10.2) else (bif r9.1 then (oF (a0.2.2.1,r0.1)).bind fun r11=> some (a0.1,a0.2.1,r11.1,a0.2.2.2) else (mP (a0.2.2.1,r0.1)).bind fun r12=> some (a0.1,a0.2.1,r12.1,a0.2.2.2):Option (dR)).bind fun x13=> (kW (x13,a1,(1:Int))).bind fun r14=> some ((1:Int),r14.2):=by kernel_rfl
def V9:TC:=
 (zS [bW 2 0,bW 3 1,qM 4 1000000005,bD 5] (zS [vY 12 2 15 51,qM 6 1000000007,dW 6 13 6 13] (zQ (.seq (.join [⟨39,[.b],false⟩] 1099511611392 none (zR [dw 14 2 15,dX 15 52 14,kI 16 15,iJ 18 3 3 0 3,Ov 42 19 100000 20 20 3,qc 21 20 3 17,AB 24 2 15 9,iJ 25 9 3 0 9,yK 53 24 26 27 27 9,zIi 28 27 0 9,tC 23 28 29,ai 30 29,AB 31 2 15 16,XO 39 31 32 32 16,tC 30 32 33,ai 34 33,zLD 35 20 2 14,zIi 38 37 80 20,tC 34 38 39])) (zC 39 (zS [nY 40 6 15 4 4 6,bD 5] .ret) .skip)) (zQ (zS [dw 41 2 15,xf 42 3 4 54 41,iH 44 43] (zC 44 (zS [dw 45 3 4,zHE 55 6 45 3 46 6 46] (zS [nY 47 6 15 4 4 6,kg 5 1] .ret)) .skip)) (zQ (zS [bF 48 3 1] (.block 0 (zS [Kl 51 49 3] (zC 50 (zS [kT 53 2 0 2 3,bF 57 2 2,Ox 59 56 54 56 58,OL 59 52 59 1 1,bV 60 7 60,ai 8 61] (zS [kg 9 2] (zQ (.join [⟨9,[.i .i64],false⟩] 9440121279720863040000 none (zS [eU 62 7,eU 67 7,Tt 63 3 2 62 7 1,Tt 68 3 3 67 7 1,mI 72 66 71] (zC 72 (zR [kg 9 1]) .skip))) (zS [EP 73 3 4 9,zIe 55 6 73 74 75 6 75] (zS [nY 76 6 15 4 4 6,kg 5 1] .ret))))) (zS [jD 78 49 4 77] (zC 77 (zQ (zS [kT 79 2 1 3 2,ku 83 80 82 1,bF 85 3 3,mI 87 84 86] (zC 87 (zS [dw 88 3 4,zHE 55 6 88 2 89 6 89] (zS [nY 90 6 15 4 4 6,kg 5 1] .ret)) .skip)) (zS [[⟨false,[],[1000000002],.det 1 (.load 3 [] 0 .nil 4 false),[91],(some 91),none⟩],Jm 1000000002 92 92 2 1,Jm 1000000002 94 94 3 2,zHa 1000000002 93 95 96 96,zHc 1000000002 93 1 0 96 1 97 97,bF 98 3 2,[o5 (.build eX [(1,kO 3),(3,.t 99)]) 100 1000000002],zId 57 6 91 97 100 101 6 100 101,ai 10 101] (zS [gP 102 6 15,ai 103 10,vV 102 4 102 4 102 102 6,ai 5 103] .ret))) .skip)))))) (zS [dw 104 3 4,zIj 58 6 104 105 6 105,ai 11 105] (zS [gP 106 6 15,ai 107 11,vV 106 4 106 4 106 106 6,ai 5 107] .ret)))))))
def afs:aI:=⟨[.rd true l6,.rd true [.d,.d,.d,.d]],(.tup [(true,15),(false,1)] Ct0)⟩
def V_:aH:=aA [(51,xJ),(52,Lc),(42,dG),(53,xK),(39,EQ),(54,CE),(55,Be),(56,EU),(57,He),(58,Lx)]
def We (n:Nat):dR × nM->Option (Zt2 × Unit):=aC n V_ V9 [bC,fI] Ty1 [] [4,5] .no
def EW:=We BIG
def Wh:TSp:=⟨afs,[bC,fI],Ty1,[],Ou.j .no,EW⟩
theorem aou:aM PG V_ 11 afs (V9.ht 108) .no=some (V9.wc V_,[4,5]):=by kernel_rfl
theorem abt:Wh.Ok PG 11:=aN (ae Cw (ae Uk (ae dA (ae Cx (ae F3 (ae K7 (ae G8 (ae Um (ae Pd (ae Y1 (aj PG))))))))))) aou (by kernel_rfl)
theorem aov (n) (a0) (a1):We n (a0,a1) = (lh a0).bind fun r0=> ((Bd a0).bind fun r1=> bif !r1.1 then some true else (bf (a1.1,(1:Int),(100000:Int))).bind fun r2=> bif !r2.1 then some true else (rM (a0,a1.1)).bind fun r3=> bif decide ((0:Int)<=r3.1) then some true else (nz a0).bind fun r4=> bif r4.1 then some true else some (decide ((80:Int)<=(a0.2.2.2.2.2.2.2.2.2.2.2.2.2.2.length:Int))):Option (Bool)).bind fun x5=> bif x5 then some ((r0.1.1,r0.1.2.1,r0.1.2.2.1,r0.1.2.2.2.1,r0.1.2.2.2.2.1,r0.1.2.2.2.2.2.1,r0.1.2.2.2.2.2.2.1,r0.1.2.2.2.2.2.2.2.1,r0.1.2.2.2.2.2.2.2.2.1,r0.1.2.2.2.2.2.2.2.2.2.1,r0.1.2.2.2.2.2.2.2.2.2.2.1,r0.1.2.2.2.2.2.2.2.2.2.2.2.1,r0.1.2.2.2.2.2.2.2.2.2.2.2.2.1,r0.1.2.2.2.2.2.2.2.2.2.2.2.2.2.1,r0.1.2.2.2.2.2.2.2.2.2.2.2.2.2.2,(0:Int)),()) else (u7 (a0,a1)).bind fun r6=> bif !r6.1 then (kW (r0.1,a1,(3:Int))).bind fun r7=> some ((r7.2.1,r7.2.2.1,r7.2.2.2.1,r7.2.2.2.2.1,r7.2.2.2.2.2.1,r7.2.2.2.2.2.2.1,r7.2.2.2.2.2.2.2.1,r7.2.2.2.2.2.2.2.2.1,r7.2.2.2.2.2.2.2.2.2.1,r7.2.2.2.2.2.2.2.2.2.2.1,r7.2.2.2.2.2.2.2.2.2.2.2.1,r7.2.2.2.2.2.2.2.2.2.2.2.2.1,r7.2.2.2.2.2.2.2.2.2.2.2.2.2.1,r7.2.2.2.2.2.2.2.2.2.2.2.2.2.2.1,r7.2.2.2.2.2.2.2.2.2.2.2.2.2.2.2,(1:Int)),()) else bif decide (a1.2.1=(3:Int)) then (uF (a0.1,a0.2.2.2.1,a0.2.2.1)).bind fun r8=> (bnd r8.1.1.length a1.2.2.1 fun n9=> r8.1.1[n9]?.bind fun y10=> bnd r8.1.1.length a1.2.2.2 fun n11=> r8.1.1[n11]?.bind fun y12=> bif decide (y10=y12) then some (1:Int) else some (2:Int):Option (Int)).bind fun x13=> (kW (r0.1,a1,x13)).bind fun r14=> some ((r14.2.1,r14.2.2.1,r14.2.2.2.1,r14.2.2.2.2.1,r14.2.2.2.2.2.1,r14.2.2.2.2.2.2.1,r14.2.2.2.2.2.2.2.1,r14.2.2.2.2.2.2.2.2.1,r14.2.2.2.2.2.2.2.2.2.1,r14.2.2.2.2.2.2.2.2.2.2.1,r14.2.2.2.2.2.2.2.2.2.2.2.1,r14.2.2.2.2.2.2.2.2.2.2.2.2.1,r14.2.2.2.2.2.2.2.2.2.2.2.2.2.1,r14.2.2.2.2.2.2.2.2.2.2.2.2.2.2.1,r14.2.2.2.2.2.2.2.2.2.2.2.2.2.2.2,(1:Int)),()) else bif decide (a1.2.1=(4:Int)) then bnd a0.2.1.length a1.2.2.1 fun n15=> a0.2.1[n15]?.bind fun y16=> bif decide (y16=a1.2.2.2) then (kW (r0.1,a1,(2:Int))).bind fun r17=> some ((r17.2.1,r17.2.2.1,r17.2.2.2.1,r17.2.2.2.2.1,r17.2.2.2.2.2.1,r17.2.2.2.2.2.2.1,r17.2.2.2.2.2.2.2.1,r17.2.2.2.2.2.2.2.2.1,r17.2.2.2.2.2.2.2.2.2.1,r17.2.2.2.2.2.2.2.2.2.2.1,r17.2.2.2.2.2.2.2.2.2.2.2.1,r17.2.2.2.2.2.2.2.2.2.2.2.2.1,r17.2.2.2.2.2.2.2.2.2.2.2.2.2.1,r17.2.2.2.2.2.2.2.2.2.2.2.2.2.2.1,r17.2.2.2.2.2.2.2.2.2.2.2.2.2.2.2,(1:Int)),()) else bnd a0.2.1.length a1.2.2.1 fun n18=> a0.2.1[n18]?.bind fun y19=> (xL (r0.1,a1,y19,((0:Int),(3:Int),[],a1.2.2.1))).bind fun r20=> some ((r20.2.1,r20.2.2.1,r20.2.2.2.1,r20.2.2.2.2.1,r20.2.2.2.2.2.1,r20.2.2.2.2.2.2.1,r20.2.2.2.2.2.2.2.1,r20.2.2.2.2.2.2.2.2.1,r20.2.2.2.2.2.2.2.2.2.1,r20.2.2.2.2.2.2.2.2.2.2.1,r20.2.2.2.2.2.2.2.2.2.2.2.1,r20.2.2.2.2.2.2.2.2.2.2.2.2.1,r20.2.2.2.2.2.2.2.2.2.2.2.2.2.1,r20.2.2.2.2.2.2.2.2.2.2.2.2.2.2.1,r20.2.2.2.2.2.2.2.2.2.2.2.2.2.2.2,r20.1),()) else (zy (r0.1,a1)).bind fun r21=> some ((r21.2.1,r21.2.2.1,r21.2.2.2.1,r21.2.2.2.2.1,r21.2.2.2.2.2.1,r21.2.2.2.2.2.2.1,r21.2.2.2.2.2.2.2.1,r21.2.2.2.2.2.2.2.2.1,r21.2.2.2.2.2.2.2.2.2.1,r21.2.2.2.2.2.2.2.2.2.2.1,r21.2.2.2.2.2.2.2.2.2.2.2.1,r21.2.2.2.2.2.2.2.2.2.2.2.2.1,r21.2.2.2.2.2.2.2.2.2.2.2.2.2.1,r21.2.2.2.2.2.2.2.2.2.2.2.2.2.2.1,r21.2.2.2.2.2.2.2.2.2.2.2.2.2.2.2,r21.1),()):=by kernel_rfl
def zz:TC:=
 (zS [zIk 4 1000000005] (zS [bN 16,zAz 116 17 17,ai 5 17] (zS [EO 18 112 3,SY 20 1 19,ai 6 20] (zS [[o1 21 (.build Oq [])],zIk 7 1000000008,dW 7 21 7 21] (zS [cB 23 5 6,fJ 25 110 23 24,zLB 25 22 25 15,d_ 28,Te 7 26 7 0 28 26] (zQ (.join [⟨7,Oq,false⟩] 70368207308672 none (zS [kg 8 1] (.block 0 (.loop [⟨7,Oq,false⟩,⟨8,[.i .i64],false⟩] 70368207308672 (zQ (zS [cB 29 8 6,[o1 31 (.data (.bin .leq) [.t 29,.t 30])]] (zC 31 .skip (.exit 0))) (zQ (.block 1 (zS [cB 35 8 5,fJ 37 114 35 36,OL 37 34 37 7 7,zBE 9 1000000010,vZ 9 38 9 38] (zR [jr 40 7 15,gP 42 9 7,[⟨false,[42],[],.det 2 (.sli gF [.t 42]),[43,42,42,9],(some 43),none⟩],zBx 41 41 43 44 41 43 41 7 44,Tg 45 7 44 41 7 15 44]))) (zR [dZ 32 8 8]))))))) (zQ (.join [⟨0,bg,false⟩,⟨7,Oq,false⟩] 81129638414606681625420261030017 none (zS [bD 11] (.block 2 (.loop [⟨0,bg,false⟩,⟨7,Oq,false⟩,⟨11,[.i .i64],false⟩] 81129638414606681625420529465473 (zQ (zS [ai 46 11,Jn 47 1,dX 49 117 48,jC 112 49 50 50,eD 51 46 50] (zC 51 .skip (.exit 2))) (zQ (.join [⟨7,Oq,false⟩,⟨0,bg,false⟩] 81129638414606663681390495723649 none (.block 3 (zQ (zS [d_ 54,XP 55 7 0 54 15,dX 56 39 55] (zC 56 (zS [zKp 57,yJ 59 58,EE 60 7 9 59,tH 61 60,ai 12 61] (zS [ai 65 12,zLo 1000000014 1000000015 63 63 7 15 1,zIo 1000000014 1000000015 64 65 66 66,zIp 1000000014 1000000015 7 66 67 67,zHf 1000000014 1000000015 68 68,zIq 1000000014 1000000015 68 69 69,zLp 1000000014 1000000015 69 70 70 7 10 4,zKq 1000000014 1000000015 40 67 71 72 72 62 62 0 7,zIr 1000000014 1000000015 62 7 4 74 62 74,zHn 1000000014 1000000015 62 11 75 75,zIs 1000000015 13 1000000014 13,zIt 1000000014 14 1000000015 14,dW 13 73 13 73,vZ 14 74 14 74] (zQ (.join [⟨7,Oq,false⟩] 9903449433731788482300354688 none (zS [ai 76 15,tJ 77 76 0] (zC 77 (zS [jr 78 7 15,ai 80 12,gP 81 13 7,qb 82 79 80,[⟨false,[81],[],.det 2 (.store 7 [(15,7)] 0 (.t 82) (.t 81)),[7,81,81,13,54,55,57,58,59,63,64,66,67,68,69,70,71,82,79,78],none,none⟩]] (zR [d_ 84,XP 85 7 0 84 15,zJj 86 12,gP 88 14 4,Ox 89 19 85 87 88,zLB 89 83 89 15,Tg 92 7 90 85 7 0 90])) .skip))) (.exit 3)))) .skip)) (zR [bN 96,cB 97 5 6,ai 99 11,EH 0 94 94,[⟨false,[],[0],.det 1 (.load 7 [] 0 (.t 94) 15 true),[95],(some 95),none⟩],yI 100 99,zIu 0 97 98 100 101 0 101,fJ 102 11 95 101,zLB 102 93 102 15,d_ 105,zHD 7 103 55 95 7 0 105 103])))) (zR [OJ 52 11]))))))) (zS [nY 106 7 16 4 4 7] .ret))))))))
def LA:aI:=⟨[.mp [.sl (.ro []) [.d],.d,.d],.rd false dF],(.one true [.d,.sl (.own none) [.d],.sl (.own none) [.d,.d],.sl (.own none) dF,.sl (.own none) [.d],.d,.d,.d,.d,.d,.d,.d,.sl (.own none) [.d,.d],.d,.sl (.own none) aaL,.sl (.own none) Jj])⟩
def zB:aH:=aA [(116,afn),(112,dY),(110,Tx),(114,OT),(117,Tz),(39,EQ),(40,VZ),(19,V6),(41,Lu),(11,Wh)]
def zD (n:Nat):(List Int × Int × Int) × List (Int)->Option ((Int × List Int × List aF × List (List Int) × List Int × Int × Int × Int × Int × Int × Int × Int × List aF × Int × List nL × List mJ) × List Int × Int × Int):=aC n zB zz [bg,[.sl [.i .u8]]] Oq bg [4] (.mp 0)
def rW:=zD BIG
def zF:TSp:=⟨LA,[bg,[.sl [.i .u8]]],Oq,bg,Ou.j (.mp 0),rW⟩
theorem abu:aM PG zB 38 LA (zz.ht 107) (.mp 0)=some (zz.wc zB,[4]):=by kernel_rfl
theorem Jv:zF.Ok PG 38:=aN (ae al5 (ae dU (ae ac3 (ae aa6 (ae ac6 (ae F3 (ae abh (ae abp (ae Ul (ae abt (aj PG))))))))))) abu (by kernel_rfl)
theorem abv (n) (a0) (a1):zD n (a0,a1) = (NS a0).bind fun r0=> (bA (r0.2,(3:Int))).bind fun r1=> (FV (r0.1,IntKind.wrap .i64 ((1:Int)+r1.1))).bind fun r2=> (aJ n (X:=XT × Int) (B:=XT) (fun self4 x3=> bif decide (x3.2<=(IntKind.wrap .i64 ((1:Int)+r1.1))) then (BZ (x3.2,r0.1)).bind fun r5=> bif decide (x3.1.2.2.2.2.2.2.2.2.2.2.2.2.2.2.2.length+([(r5.1.1,r5.1.2.1,r5.1.2.2.1,r5.1.2.2.2.1,r5.1.2.2.2.2.1,r5.1.2.2.2.2.2.1,r5.1.2.2.2.2.2.2.1)]).length<=4294967296) then self4 ((x3.1.1,x3.1.2.1,x3.1.2.2.1,x3.1.2.2.2.1,x3.1.2.2.2.2.1,x3.1.2.2.2.2.2.1,x3.1.2.2.2.2.2.2.1,x3.1.2.2.2.2.2.2.2.1,x3.1.2.2.2.2.2.2.2.2.1,x3.1.2.2.2.2.2.2.2.2.2.1,x3.1.2.2.2.2.2.2.2.2.2.2.1,x3.1.2.2.2.2.2.2.2.2.2.2.2.1,x3.1.2.2.2.2.2.2.2.2.2.2.2.2.1,x3.1.2.2.2.2.2.2.2.2.2.2.2.2.2.1,x3.1.2.2.2.2.2.2.2.2.2.2.2.2.2.2.1,x3.1.2.2.2.2.2.2.2.2.2.2.2.2.2.2.2++([(r5.1.1,r5.1.2.1,r5.1.2.2.1,r5.1.2.2.2.1,r5.1.2.2.2.2.1,r5.1.2.2.2.2.2.1,r5.1.2.2.2.2.2.2.1)])),IntKind.wrap .i64 (x3.2+(1:Int))) else none else some x3.1) ((r2.1.1,r2.1.2.1,r2.1.2.2.1,r2.1.2.2.2.1,r2.1.2.2.2.2.1,r2.1.2.2.2.2.2.1,r2.1.2.2.2.2.2.2.1,r2.1.2.2.2.2.2.2.2.1,r2.1.2.2.2.2.2.2.2.2.1,r2.1.2.2.2.2.2.2.2.2.2.1,r2.1.2.2.2.2.2.2.2.2.2.2.1,r2.1.2.2.2.2.2.2.2.2.2.2.2.1,r2.1.2.2.2.2.2.2.2.2.2.2.2.2.1,r2.1.2.2.2.2.2.2.2.2.2.2.2.2.2.1,r2.1.2.2.2.2.2.2.2.2.2.2.2.2.2.2.1,[]),(1:Int)):Option (XT)).bind fun x6=> (aJ n (X:=(List Int × Int × Int) × XT × Int) (B:=(List Int × Int × Int) × XT) (fun self8 x7=> (FZ a1).bind fun r9=> (bA (x7.1,r9.1)).bind fun r10=> bif decide (x7.2.2<r10.1) then ((nz (x7.2.1.1,x7.2.1.2.1,x7.2.1.2.2.1,x7.2.1.2.2.2.1,x7.2.1.2.2.2.2.1,x7.2.1.2.2.2.2.2.1,x7.2.1.2.2.2.2.2.2.1,x7.2.1.2.2.2.2.2.2.2.1,x7.2.1.2.2.2.2.2.2.2.2.1,x7.2.1.2.2.2.2.2.2.2.2.2.1,x7.2.1.2.2.2.2.2.2.2.2.2.2.1,x7.2.1.2.2.2.2.2.2.2.2.2.2.2.1,x7.2.1.2.2.2.2.2.2.2.2.2.2.2.2.1,x7.2.1.2.2.2.2.2.2.2.2.2.2.2.2.2.1,x7.2.1.2.2.2.2.2.2.2.2.2.2.2.2.2.2.1)).bind fun r11=> bif r11.1 then bnd x7.2.1.2.2.2.2.2.2.2.2.2.2.2.2.2.2.2.length (IntKind.wrap .i64 (x7.2.1.2.2.2.2.2.2.2.2.2.1-(1:Int))) fun n12=> x7.2.1.2.2.2.2.2.2.2.2.2.2.2.2.2.2.2[n12]?.bind fun y13=> (lL (y13,(x7.2.1.2.2.2.2.2.2.2.2.2.2.1,x7.2.1.2.2.2.2.2.2.2.2.2.2.2.1,x7.2.1.2.2.2.2.2.2.2.2.2.2.2.2.1,x7.2.1.2.2.2.2.2.2.2.2.2.2.2.2.2.1))).bind fun r14=> (bif decide (r14.1.2.2.2.2.2.2.2.2.2.2.2=(0:Int)) then bnd x7.2.1.2.2.2.2.2.2.2.2.2.2.2.2.2.2.2.length (IntKind.wrap .i64 (x7.2.1.2.2.2.2.2.2.2.2.2.1-(1:Int))) fun n15=> x7.2.1.2.2.2.2.2.2.2.2.2.2.2.2.2.2.2[n15]?.bind fun y16=> (yf ((x7.2.1.1,x7.2.1.2.1,x7.2.1.2.2.1,x7.2.1.2.2.2.1,x7.2.1.2.2.2.2.1,x7.2.1.2.2.2.2.2.1,x7.2.1.2.2.2.2.2.2.1,x7.2.1.2.2.2.2.2.2.2.1,x7.2.1.2.2.2.2.2.2.2.2.1,x7.2.1.2.2.2.2.2.2.2.2.2.1,x7.2.1.2.2.2.2.2.2.2.2.2.2.1,x7.2.1.2.2.2.2.2.2.2.2.2.2.2.1,x7.2.1.2.2.2.2.2.2.2.2.2.2.2.2.1,x7.2.1.2.2.2.2.2.2.2.2.2.2.2.2.2.1,x7.2.1.2.2.2.2.2.2.2.2.2.2.2.2.2.2.1),IntKind.wrap .i64 ((IntKind.wrap .i64 (x7.2.1.2.2.2.2.2.2.2.2.2.1-(1:Int)))+(1:Int)),(r14.1.2.2.2.2.2.2.2.1,r14.1.2.2.2.2.2.2.2.2.1,r14.1.2.2.2.2.2.2.2.2.2.1,r14.1.2.2.2.2.2.2.2.2.2.2.1))).bind fun r17=> some (r17.1.1,r17.1.2.1,r17.1.2.2.1,r17.1.2.2.2.1,r17.1.2.2.2.2.1,r17.1.2.2.2.2.2.1,r17.1.2.2.2.2.2.2.1,r17.1.2.2.2.2.2.2.2.1,r17.1.2.2.2.2.2.2.2.2.1,r17.1.2.2.2.2.2.2.2.2.2.1,r17.1.2.2.2.2.2.2.2.2.2.2.1,r17.1.2.2.2.2.2.2.2.2.2.2.2.1,r17.1.2.2.2.2.2.2.2.2.2.2.2.2.1,r17.1.2.2.2.2.2.2.2.2.2.2.2.2.2.1,r17.1.2.2.2.2.2.2.2.2.2.2.2.2.2.2.1,x7.2.1.2.2.2.2.2.2.2.2.2.2.2.2.2.2.2.set n15 (r14.1.1,r14.1.2.1,r14.1.2.2.1,r14.1.2.2.2.1,r14.1.2.2.2.2.1,r14.1.2.2.2.2.2.1,r14.1.2.2.2.2.2.2.1)) else some x7.2.1:Option (XT)).bind fun x18=> some (x18,r10.2) else (Bf (r10.2,r0.1,IntKind.wrap .i64 ((1:Int)+r1.1),IntKind.wrap .i64 (x7.2.2+(1:Int)))).bind fun r19=> (EW ((x7.2.1.1,x7.2.1.2.1,x7.2.1.2.2.1,x7.2.1.2.2.2.1,x7.2.1.2.2.2.2.1,x7.2.1.2.2.2.2.2.1,x7.2.1.2.2.2.2.2.2.1,x7.2.1.2.2.2.2.2.2.2.1,x7.2.1.2.2.2.2.2.2.2.2.1,x7.2.1.2.2.2.2.2.2.2.2.2.1,x7.2.1.2.2.2.2.2.2.2.2.2.2.1,x7.2.1.2.2.2.2.2.2.2.2.2.2.2.1,x7.2.1.2.2.2.2.2.2.2.2.2.2.2.2.1,x7.2.1.2.2.2.2.2.2.2.2.2.2.2.2.2.1,x7.2.1.2.2.2.2.2.2.2.2.2.2.2.2.2.2.1),r19.1)).bind fun r20=> some ((r20.1.1,r20.1.2.1,r20.1.2.2.1,r20.1.2.2.2.1,r20.1.2.2.2.2.1,r20.1.2.2.2.2.2.1,r20.1.2.2.2.2.2.2.1,r20.1.2.2.2.2.2.2.2.1,r20.1.2.2.2.2.2.2.2.2.1,r20.1.2.2.2.2.2.2.2.2.2.1,r20.1.2.2.2.2.2.2.2.2.2.2.1,r20.1.2.2.2.2.2.2.2.2.2.2.2.1,r20.1.2.2.2.2.2.2.2.2.2.2.2.2.1,r20.1.2.2.2.2.2.2.2.2.2.2.2.2.2.1,r20.1.2.2.2.2.2.2.2.2.2.2.2.2.2.2.1,x7.2.1.2.2.2.2.2.2.2.2.2.2.2.2.2.2.2),r19.2):Option (XT × (List Int × Int × Int))).bind fun x21=> self8 (x21.2,x21.1,IntKind.wrap .i64 (x7.2.2+(1:Int))) else some (r10.2,x7.2.1)) (r1.2,x6,(0:Int)):Option ((List Int × Int × Int) × XT)).bind fun x22=> some (x22.2,x22.1):=by kernel_rfl
def Ho:TC:=
 (zS [lG 4 1000000005] (zS [Jn 7 1,jC 112 8 9 9,ai 5 9] (zS [Tj 10 1 112,ai 6 12] (zQ (.join [⟨6,[.i .i64],false⟩] 1040448 none (zS [cB 13 5 6,mI 15 13 14] (zC 15 (zR [zJj 16 5,ai 18 1,zAA 19 17 18,ai 6 19]) .skip))) (zQ (zS [cB 20 5 6,zGs 22 20 21] (zC 22 (zS [cB 23 6 5,AA 25 23 24,df 4 4 25] .ret) .skip)) (zS [cB 26 5 6,AA 28 26 27,df 4 4 28] .ret))))))
def Ur:aI:=⟨[.mp [.sl (.ro []) [.d],.d,.d],.rd false [.d]],(.one true [.d,.d])⟩
def Hq:aH:=aA [(112,dY)]
def Hr (n:Nat):(List Int × Int × Int) × Int->Option (aF × List Int × Int × Int):=aC n Hq Ho [bg,[.i .i64]] [.i .i64,.i .i64] bg [4] (.mp 0)
def jV:=Hr BIG
def rX:TSp:=⟨Ur,[bg,[.i .i64]],[.i .i64,.i .i64],bg,Ou.j (.mp 0),jV⟩
theorem ahr:aM PG Hq 161 Ur (Ho.ht 29) (.mp 0)=some (Ho.wc Hq,[4]):=by kernel_rfl
theorem ve:rX.Ok PG 161:=aN (ae dU (aj PG)) ahr (by kernel_rfl)
theorem ahs (n) (a0) (a1):Hr n (a0,a1) = (bA (a0,a1)).bind fun r0=> (bA (r0.2,a1)).bind fun r1=> (bif decide (r0.1=r1.1) then bif decide (a1=0) then none else some (Int.tmod (IntKind.wrap .i64 (r0.1+(1:Int))) a1) else some r1.1:Option (Int)).bind fun x2=> bif decide (x2<r0.1) then some ((x2,r0.1),r1.2) else some ((r0.1,x2),r1.2):=by kernel_rfl
def Ht:TC:=
 (zS [aZ 4] (zS [Jn 5 1,jC 112 6 7 7,tJ 8 7 0,ai 4 8] .ret))
def Us:aI:=⟨[.mp [.sl (.ro []) [.d],.d,.d],.rd false [.d]],(.one false [.d])⟩
def Hu:aH:=aA [(112,dY)]
def Hw (n:Nat):(List Int × Int × Int) × Int->Option ((Bool) × List Int × Int × Int):=aC n Hu Ht [bg,[.i .i64]] [.b] bg [4] (.mp 0)
def gz:=Hw BIG
def rY:TSp:=⟨Us,[bg,[.i .i64]],[.b],bg,Ou.j (.mp 0),gz⟩
theorem aht:aM PG Hu 77 Us (Ht.ht 9) (.mp 0)=some (Ht.wc Hu,[4]):=by kernel_rfl
theorem vg:rY.Ok PG 77:=aN (ae dU (aj PG)) aht (by kernel_rfl)
theorem ahu (n) (a0) (a1):Hw n (a0,a1) = (bA (a0,a1)).bind fun r0=> some (decide (r0.1=(0:Int)),r0.2):=by kernel_rfl
def LB:TC:=
 (zS [bW 1 0,EF 2] (zQ (zS [dw 3 1 2,dX 4 127 3,iH 5 4] (zC 5 (zS [S9 6,bV 6 2 6] .ret) .skip)) (zS [fK 7 1 0 7,fK 9 1 1 9,fJ 11 142 8 10,bV 11 2 11] .ret)))
def Yh:aI:=⟨[.rd true Ot],(.one false dF)⟩
def LC:aH:=aA [(127,xD),(142,mK)]
def LD (n:Nat):kJ->Option ((List Int) × Unit):=aC n LC LB [gI] [.sl [.i .i64]] [] [2] .no
def LF:=LD BIG
def Yi:TSp:=⟨Yh,[gI],[.sl [.i .i64]],[],Ou.j .no,LF⟩
theorem aka:aM PG LC 126 Yh (LB.ht 12) .no=some (LB.wc LC,[2]):=by kernel_rfl
theorem ahv:Yi.Ok PG 126:=aN (ae Cc (ae oD (aj PG))) aka (by kernel_rfl)
theorem akb (n) (a0):LD n a0 = (qV a0).bind fun r0=> bif !r0.1 then some ([],()) else (kK (a0.1,a0.2)).bind fun r1=> some (r1.1,()):=by kernel_rfl
def zG:TC:=
 (zS [Jl 4 1000000005] (zS [ai 8 1,zDh 9 8,Ta 5 1000000006,dW 5 9 5 9] (zQ (.join [⟨0,bg,false⟩,⟨5,gI,false⟩] 268434657 none (zS [bD 6] (.block 0 (.loop [⟨0,bg,false⟩,⟨5,gI,false⟩,⟨6,[.i .i64],false⟩] 268434657 (zQ (zS [ai 10 6,EO 11 112 8,eD 13 10 12] (zC 13 .skip (.exit 0))) (zQ (.join [⟨0,bg,false⟩,⟨5,gI,false⟩] 268370081 none (.block 1 (zS [Tj 16 1 161,lG 7 1000000008,df 7 7 18] (zS [gP 19 5 2,xf 20 7 2 129 19,iH 22 21] (zC 22 (zR [jr 23 5 1,xf 25 7 2 130 24,d_ 27,zHD 5 26 19 24 5 1 27 26]) .skip))))) (zR [dZ 14 6 6]))))))) (zS [bN 28,bN 31,zAB 112 9 29 29,[⟨false,[],[0],.det 1 (.data (.bin .add) [kD 1,.t 29]),[30],(some 30),none⟩],zAB 77 2 32 32,EH 0 33 33,zIv 5 1 33 34 34,zGB 0 5 2 35 35,dX 36 126 35,[⟨false,[34],[],.det 3 (.build fQ [(0,.t 30),(1,.t 32),(2,.t 34),(3,.t 36)]),[37,34,36,34,5,35],(some 37),none⟩],dW 4 37 4 37] .ret))))
def LG:aI:=⟨[.mp [.sl (.ro []) [.d],.d,.d],.rd false [.d]],(.one true Az)⟩
def zH:aH:=aA [(112,dY),(161,rX),(129,xI),(130,qj),(77,rY),(126,Yi)]
def zI (n:Nat):(List Int × Int × Int) × Int->Option (iC × List Int × Int × Int):=aC n zH zG [bg,[.i .i64]] fQ bg [4] (.mp 0)
def zJ:=zI BIG
def LH:TSp:=⟨LG,[bg,[.i .i64]],fQ,bg,Ou.j (.mp 0),zJ⟩
theorem abw:aM PG zH 159 LG (zG.ht 38) (.mp 0)=some (zG.wc zH,[4]):=by kernel_rfl
theorem Y2:LH.Ok PG 159:=aN (ae dU (ae ve (ae Cv (ae rE (ae vg (ae ahv (aj PG))))))) abw (by kernel_rfl)
theorem abx (n) (a0) (a1):zI n (a0,a1) = (aJ n (X:=(List Int × Int × Int) × kJ × Int) (B:=(List Int × Int × Int) × kJ) (fun self1 x0=> (bA (x0.1,(8:Int))).bind fun r2=> bif decide (x0.2.2<r2.1) then ((jV (r2.2,a1)).bind fun r3=> (rD (x0.2.1,r3.1)).bind fun r4=> bif !r4.1 then (mP (x0.2.1.2,r3.1)).bind fun r5=> some (r3.2,(x0.2.1.1,r5.1)) else some (r3.2,x0.2.1):Option ((List Int × Int × Int) × kJ)).bind fun x6=> self1 (x6.1,x6.2,IntKind.wrap .i64 (x0.2.2+(1:Int))) else some (r2.2,x0.2.1)) (a0,(a1,[]),(0:Int)):Option ((List Int × Int × Int) × kJ)).bind fun x7=> (bA (x7.1,(9:Int))).bind fun r8=> (gz (r8.2,(2:Int))).bind fun r9=> (LF x7.2).bind fun r10=> some ((IntKind.wrap .i64 ((1:Int)+r8.1),r9.1,x7.2.2,r10.1),r9.2):=by kernel_rfl
def wI:TC:=
 (zS [bW 3 1,lG 4 1000000005] (zQ (.seq (.join [⟨0,bg,false⟩,⟨12,[.b],false⟩] 8161 none (zR [fK 5 3 1 5,je 7 6,SS 8 7 0,ai 9 8,[o2 10 (.p0) 4 true],zIw 0 2 11 0 11 4,lF 9 11 12])) (zC 12 (zS [bN 15,EH 0 13 13,zGA 0 3 1 13 14 14,OO 16 3 1,jC 112 18 19 19,jq 20 14 19 2 2,df 4 4 21] .ret) .skip)) (zQ (zS [EO 22 77 12] (zC 23 (zS [bN 24,[⟨false,[],[],.det 6 (.sli [.i .i64] [kO (-1),kO 0,kO 5,kO 11,kO 12]),[25,1000000001,1000000002,1000000003,1000000004,1000000005],(some 25),none⟩],jC 125 25 26 26,bN 27,[⟨false,[],[],.det 5 (.sli [.i .i64] [kO 0,kO 5,kO 11,kO 12]),[28,1000000001,1000000002,1000000003,1000000004],(some 28),none⟩],jC 125 28 29 29,AA 30 26 29,df 4 4 30] .ret) .skip)) (zS [EO 31 161 6,df 4 4 32] .ret))))
def Jw:aI:=⟨[.mp [.sl (.ro []) [.d],.d,.d],.rd true Ot],(.one true [.d,.d])⟩
def wJ:aH:=aA [(77,rY),(112,dY),(125,gW),(161,rX)]
def wK (n:Nat):(List Int × Int × Int) × kJ->Option (aF × List Int × Int × Int):=aC n wJ wI [bg,gI] [.i .i64,.i .i64] bg [4] (.mp 0)
def jE:=wK BIG
def oG:TSp:=⟨Jw,[bg,gI],[.i .i64,.i .i64],bg,Ou.j (.mp 0),jE⟩
theorem Y3:aM PG wJ 160 Jw (wI.ht 33) (.mp 0)=some (wI.wc wJ,[4]):=by kernel_rfl
theorem uG:oG.Ok PG 160:=aN (ae vg (ae dU (ae ig (ae ve (aj PG))))) Y3 (by kernel_rfl)
theorem Y4 (n) (a0) (a1):wK n (a0,a1) = (bif decide ((0:Int)<(a1.2.length:Int)) then (gz (a0,(2:Int))).bind fun r0=> some (r0.2,r0.1) else some (a0,false):Option ((List Int × Int × Int) × Bool)).bind fun x1=> bif x1.2 then (bA (x1.1,(a1.2.length:Int))).bind fun r2=> bnd a1.2.length r2.1 fun n3=> a1.2[n3]?.bind fun y4=> some (y4,r2.2) else (gz (x1.1,(12:Int))).bind fun r5=> bif r5.1 then (bM (r5.2,[(-1:Int),(0:Int),(5:Int),(11:Int),(12:Int)])).bind fun r6=> (bM (r6.2,[(0:Int),(5:Int),(11:Int),(12:Int)])).bind fun r7=> some ((r6.1,r7.1),r7.2) else (jV (r5.2,(6:Int))).bind fun r8=> some (r8.1,r8.2):=by kernel_rfl
def rZ:TC:=
 (zS [Jl 4 1000000005] (zS [Jn 6 1,jC 159 7 8 8,Jl 5 1000000006,dW 5 8 5 8] (zQ (.join [⟨0,bg,false⟩,⟨5,fQ,false⟩] 17592186043937 none (zS [EO 9 112 20] (.block 0 (zS [Kl 12 10 0] (zC 11 (zR [bN 13,zIx,jC 125 14 15 15,qP 16 5 5 0 15]) (zS [jD 18 10 1 17] (zC 17 (zR [Jn 21 1,bN 24,[⟨false,[],[0,1000000001,1000000002,1000000003,1000000004],.det 1 (.idx .nil),[19],(some 19),none⟩,⟨false,[],[0,1000000001,1000000002,1000000003,1000000004],.det 1 (.load 5 [] 3 (.t 19) 1 true),[20],(some 20),none⟩,⟨false,[],[1000000001,1000000002,1000000003,1000000004],.call 2 112 [.t 0,.t 22] (.mp 0),[23,0],(some 23),none⟩,⟨false,[],[0],.det 5 (.sli [.i .i64] [kO (-1),kO 0,kO 1,kO 11]),[25,1000000001,1000000002,1000000003,1000000004],(some 25),none⟩],jC 125 25 26 26,qb 27 20 23,XL 5 20 5 3 27 26]) (zS [jD 29 10 2 28] (zC 28 (zR [jr 30 5 3,zIy 31 31 32 31 31 5 32,Tg 33 5 32 31 5 3 32]) (zS [jD 35 10 3 34] (zC 34 (zR [bN 38,EH 0 36 36,zIv 5 2 36 37 37,zGo 39,jC 160 39 40 40,Kg 41 40,OH 37 37 41 42 37 37 5 42 5 5 2]) .skip))))))))))) (zS [nY 44 5 4 4 4 5] .ret))))
def Bg:aI:=⟨[.mp [.sl (.ro []) [.d],.d,.d],.rd false [.d]],(.one true Az)⟩
def r_:aH:=aA [(159,LH),(112,dY),(125,gW),(160,oG)]
def si (n:Nat):(List Int × Int × Int) × Int->Option (iC × List Int × Int × Int):=aC n r_ rZ [bg,[.i .i64]] fQ bg [4] (.mp 0)
def sj:=si BIG
def Bh:TSp:=⟨Bg,[bg,[.i .i64]],fQ,bg,Ou.j (.mp 0),sj⟩
theorem Ut:aM PG r_ 76 Bg (rZ.ht 45) (.mp 0)=some (rZ.wc r_,[4]):=by kernel_rfl
theorem QW:Bh.Ok PG 76:=aN (ae Y2 (ae dU (ae ig (ae uG (aj PG))))) Ut (by kernel_rfl)
theorem Uu (n) (a0) (a1):si n (a0,a1) = (zJ (a0,a1)).bind fun r0=> ((bA (r0.2,(20:Int))).bind fun r1=> bif decide (r1.1=(0:Int)) then (bM (r1.2,[(0:Int),(-1:Int),(100000:Int),(100001:Int)])).bind fun r2=> some (r2.2,(r2.1,r0.1.2)) else bif decide (r1.1=(1:Int)) then (bA (r1.2,a1)).bind fun r3=> (bM (r3.2,[(-1:Int),(0:Int),(1:Int),(11:Int)])).bind fun r4=> bnd r0.1.2.2.2.length r3.1 fun n5=> r0.1.2.2.2[n5]?.bind fun y6=> some (r4.2,(r0.1.1,r0.1.2.1,r0.1.2.2.1,r0.1.2.2.2.set n5 r4.1)) else bif decide (r1.1=(2:Int)) then bif decide (0<=(1:Int)) then bif decide ((Int.toNat (1:Int))<=r0.1.2.2.2.length/\r0.1.2.2.2.length<=r0.1.2.2.2.length) then some (r1.2,(r0.1.1,r0.1.2.1,r0.1.2.2.1,List.take (r0.1.2.2.2.length-(Int.toNat (1:Int))) (List.drop (Int.toNat (1:Int)) r0.1.2.2.2))) else none else none else bif decide (r1.1=(3:Int)) then (jE (r1.2,((0:Int),[]))).bind fun r7=> bif decide (r0.1.2.2.1.length+[r7.1].length<=4294967296) then some (r7.2,(r0.1.1,r0.1.2.1,r0.1.2.2.1++[r7.1],r0.1.2.2.2)) else none else some (r1.2,r0.1):Option ((List Int × Int × Int) × iC)).bind fun x8=> some (x8.2,x8.1):=by kernel_rfl
def CQ:TC:=
 (zS [bD 4] (zQ (zS [EO 5 77 15] (zC 6 (zS [bN 7,cB 8 1 1,yI 10 9,[⟨false,[],[],.det 4 (.sli [.i .i64] [kO (-1),.t 8,.t 10,kO 9223372036854775807,kO (-9223372036854775808)]),[11,1000000001,1000000004,1000000005],(some 11),none⟩],jC 125 11 12 12,ai 4 12] .ret) .skip)) (zS [Tj 13 1 112,ai 4 15] .ret)))
def Pe:aI:=⟨[.mp [.sl (.ro []) [.d],.d,.d],.rd false [.d]],(.one false [.d])⟩
def CR:aH:=aA [(77,rY),(125,gW),(112,dY)]
def CS (n:Nat):(List Int × Int × Int) × Int->Option ((Int) × List Int × Int × Int):=aC n CR CQ [bg,[.i .i64]] [.i .i64] bg [4] (.mp 0)
def og:=CS BIG
def Pf:TSp:=⟨Pe,[bg,[.i .i64]],[.i .i64],bg,Ou.j (.mp 0),og⟩
theorem adu:aM PG CR 78 Pe (CQ.ht 16) (.mp 0)=some (CQ.wc CR,[4]):=by kernel_rfl
theorem aby:Pf.Ok PG 78:=aN (ae vg (ae ig (ae dU (aj PG)))) adu (by kernel_rfl)
theorem adv (n) (a0) (a1):CS n (a0,a1) = (gz (a0,(15:Int))).bind fun r0=> bif r0.1 then (bM (r0.2,[(-1:Int),a1,IntKind.wrap .i64 (a1+(1:Int)),(9223372036854775807:Int),(-9223372036854775808:Int)])).bind fun r1=> some (r1.1,r1.2) else (bA (r0.2,a1)).bind fun r2=> some (r2.1,r2.2):=by kernel_rfl
def CU:TC:=
 (zS [zHs 4 1000000005] (zS [EO 8 112 9,SY 10 1 9,bN 11,[⟨false,[],[],.det 8 (.sli [.i .i64] [kO 1,kO 1,kO 1,kO 2,kO 2,kO 3,kO 4]),[12,1000000001,1000000002,1000000003,1000000004,1000000005,1000000006,1000000007],(some 12),none⟩],jC 125 12 13 13,[o1 14 (.build eX [(0,.t 10),(1,.t 13)])],zHs 5 1000000006,dW 5 14 5 14] (zQ (.join [⟨0,bg,false⟩,⟨5,eX,false⟩] 1125899906810081 none (zS [bF 15 5 1] (.block 0 (zS [jD 23 16 3 22] (zC 22 (zR [Tj 24 1 112,qP 27 5 5 3 26]) (zS [jD 29 16 4 28] (zC 28 (zS [bD 6] (.block 1 (.loop [⟨0,bg,false⟩,⟨5,eX,false⟩,⟨6,[.i .i64],false⟩] 1125898833101025 (zQ (zS [ai 30 6,EO 31 112 4,SY 33 1 32,eD 34 30 33] (zC 34 .skip (.exit 1))) (zQ (.join [⟨0,bg,false⟩,⟨5,eX,false⟩] 1125762467889313 none (.block 2 (zS [Tj 37 1 161,lG 7 1000000008,df 7 7 39] (zS [jr 40 5 2,xf 42 7 2 143 41,iH 44 43] (zC 44 (zR [jr 45 5 2,xf 47 7 2 130 46,d_ 49,zHD 5 48 41 46 5 2 49 48]) .skip))))) (zR [dZ 35 6 6])))))) (zR [Tj 17 1 161,Kg 20 19,d_ 21,Te 5 20 5 2 21 20])))))))) (zS [nY 50 5 4 4 4 5] .ret))))
def Pg:aI:=⟨[.mp [.sl (.ro []) [.d],.d,.d],.rd false [.d]],(.one true EC)⟩
def CV:aH:=aA [(112,dY),(125,gW),(161,rX),(143,qi),(130,qj)]
def CW (n:Nat):(List Int × Int × Int) × Int->Option (lU × List Int × Int × Int):=aC n CV CU [bg,[.i .i64]] eX bg [4] (.mp 0)
def CX:=CW BIG
def Ph:TSp:=⟨Pg,[bg,[.i .i64]],eX,bg,Ou.j (.mp 0),CX⟩
theorem adw:aM PG CV 201 Pg (CU.ht 51) (.mp 0)=some (CU.wc CV,[4]):=by kernel_rfl
theorem abz:Ph.Ok PG 201:=aN (ae dU (ae ig (ae ve (ae qW (ae rE (aj PG)))))) adw (by kernel_rfl)
theorem adx (n) (a0) (a1):CW n (a0,a1) = (bA (a0,(9:Int))).bind fun r0=> (bM (r0.2,[(1:Int),(1:Int),(1:Int),(2:Int),(2:Int),(3:Int),(4:Int)])).bind fun r1=> (bif decide (r1.1=(3:Int)) then (bA (r1.2,a1)).bind fun r2=> some (r2.2,(IntKind.wrap .i64 ((1:Int)+r0.1),r1.1,[],r2.1)) else bif decide (r1.1=(4:Int)) then aJ n (X:=(List Int × Int × Int) × lU × Int) (B:=(List Int × Int × Int) × lU) (fun self4 x3=> (bA (x3.1,(4:Int))).bind fun r5=> bif decide (x3.2.2<(IntKind.wrap .i64 ((1:Int)+r5.1))) then ((jV (r5.2,a1)).bind fun r6=> (mM (x3.2.1.2.2.1,r6.1)).bind fun r7=> bif !r7.1 then (mP (x3.2.1.2.2.1,r6.1)).bind fun r8=> some (r6.2,(x3.2.1.1,x3.2.1.2.1,r8.1,x3.2.1.2.2.2)) else some (r6.2,x3.2.1):Option ((List Int × Int × Int) × lU)).bind fun x9=> self4 (x9.1,x9.2,IntKind.wrap .i64 (x3.2.2+(1:Int))) else some (r5.2,x3.2.1)) (r1.2,(IntKind.wrap .i64 ((1:Int)+r0.1),r1.1,[],(0:Int)),(0:Int)) else (jV (r1.2,a1)).bind fun r10=> some (r10.2,(IntKind.wrap .i64 ((1:Int)+r0.1),r1.1,[r10.1],(0:Int))):Option ((List Int × Int × Int) × lU)).bind fun x11=> some (x11.2,x11.1):=by kernel_rfl
def uH:TC:=
 (zS [zHs 4 1000000005] (zS [Jn 6 1,jC 201 7 8 8,zHs 5 1000000006,dW 5 8 5 8] (zQ (.join [⟨0,bg,false⟩,⟨5,eX,false⟩] 549755813409 none (zS [EO 9 112 20] (.block 0 (zS [Kl 12 10 0] (zC 11 (zR [bN 13,zIx,jC 125 14 15 15,qP 16 5 5 0 15]) (zS [jD 18 10 1 17] (zC 17 (zR [bN 19,[⟨false,[],[],.det 6 (.sli [.i .i64] [kO 0,kO 5,kO 1,kO 3,kO 4]),[20,1000000001,1000000002,1000000003,1000000004,1000000005],(some 20),none⟩],jC 125 20 21 21,qP 22 5 5 1 21]) (zS [jD 24 10 2 23] (zC 23 (zR [bN 25,[⟨false,[],[],.det 5 (.sli [.i .i64] [kO (-1),kO 1,kO 11,kO 12]),[26,1000000001,1000000002,1000000003,1000000004],(some 26),none⟩],jC 125 26 27 27,qP 28 5 5 3 27]) (zS [jD 30 10 3 29] (zC 29 (zR [bN 33,EH 0 31 31,zIv 5 2 31 32 32,zGo 34,jC 160 34 35 35,Kg 36 35,OH 32 32 36 37 32 32 5 37 5 5 2]) .skip))))))))))) (zS [nY 39 5 4 4 4 5] .ret))))
def EX:aI:=⟨[.mp [.sl (.ro []) [.d],.d,.d],.rd false [.d]],(.one true EC)⟩
def uI:aH:=aA [(201,Ph),(112,dY),(125,gW),(160,oG)]
def uJ (n:Nat):(List Int × Int × Int) × Int->Option (lU × List Int × Int × Int):=aC n uI uH [bg,[.i .i64]] eX bg [4] (.mp 0)
def uK:=uJ BIG
def EY:TSp:=⟨EX,[bg,[.i .i64]],eX,bg,Ou.j (.mp 0),uK⟩
theorem Wi:aM PG uI 162 EX (uH.ht 40) (.mp 0)=some (uH.wc uI,[4]):=by kernel_rfl
theorem Uv:EY.Ok PG 162:=aN (ae abz (ae dU (ae ig (ae uG (aj PG))))) Wi (by kernel_rfl)
theorem Wj (n) (a0) (a1):uJ n (a0,a1) = (CX (a0,a1)).bind fun r0=> ((bA (r0.2,(20:Int))).bind fun r1=> bif decide (r1.1=(0:Int)) then (bM (r1.2,[(0:Int),(-1:Int),(100000:Int),(100001:Int)])).bind fun r2=> some (r2.2,(r2.1,r0.1.2)) else bif decide (r1.1=(1:Int)) then (bM (r1.2,[(0:Int),(5:Int),(1:Int),(3:Int),(4:Int)])).bind fun r3=> some (r3.2,(r0.1.1,r3.1,r0.1.2.2)) else bif decide (r1.1=(2:Int)) then (bM (r1.2,[(-1:Int),(1:Int),(11:Int),(12:Int)])).bind fun r4=> some (r4.2,(r0.1.1,r0.1.2.1,r0.1.2.2.1,r4.1)) else bif decide (r1.1=(3:Int)) then (jE (r1.2,((0:Int),[]))).bind fun r5=> bif decide (r0.1.2.2.1.length+[r5.1].length<=4294967296) then some (r5.2,(r0.1.1,r0.1.2.1,r0.1.2.2.1++[r5.1],r0.1.2.2.2)) else none else some (r1.2,r0.1):Option ((List Int × Int × Int) × lU)).bind fun x6=> some (x6.2,x6.1):=by kernel_rfl
end
end Go.Fw
