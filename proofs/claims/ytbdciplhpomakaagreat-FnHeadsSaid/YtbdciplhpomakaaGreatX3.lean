/- The given functions, as what they compute; each is shown to be what the code does. No conditions. -/
import Derived.Test.YtbdciplhpomakaaGreatX2
set_option linter.unusedVariables false
set_option linter.unusedSimpArgs false
set_option linter.unusedSectionVars false
namespace Go.Fw
noncomputable section
def M0:TC:=
 (zS [bM 2 0,bM 3 1,EW 4 1000000005,a_ 5] (zQ (zS [JD 1000000007 2 2 12 12,XA 1000000007 150 12 13 13,JD 1000000007 3 2 14 14,zGv 1000000007 198 13 14 15 15,zLd 1000000007 15 11 15 11,Bh 6 1000000007,oq 6 16 6 16] (zQ (.join [⟨24,[.b],false⟩] 33292288 none (zR [tX 18 2 2 146,jg 20 19,dw 22 7 3,nL 23 22 3 21])) (zC 24 (zS [zBC 25,ek 4 25 4 25,a_ 5] .ret) .skip))) (zS [bS 26 2 2,zGe 27 154 26,bH 27 8 27] (zS [bC 9] (zQ (.join [⟨9,[.i .i64],false⟩] 4503599358935552 none (.block 0 (.loop [⟨9,[.i .i64],false⟩] 4503599358935552 (zQ (.seq (.join [⟨49,[.b],false⟩] 1125899638407168 none (zR [qA 28 9 2 1,kw 31 30 28,ow 33 32 5 2 1 5,cK 36 9 5,kT 37 35 36 5,ol 38 37 5,tV 39 35 4 38 5,nM 40 5 2 1 5,cK 42 9 5,kT 43 41 42 5,ol 44 43 5,zGr 45 41 4 1 44 5,[o2 46 (.build [.i .i64,.i .i64] [(0,.t 39),(1,.t 45)]) 5 true],zHx 47 3 2 5,l7 192 46 47 48 48 5,lC 33 48 49])) (zC 49 .skip (.exit 0))) (.block 1 (zR [eF 50 9 9])))))) (zS [af 56 9,xz 1000000011 52 52 2 0,xz 1000000011 54 54 2 1,[⟨false,[],[1000000011],.det 1 (.res 55 none (some (.t 56))),[57],(some 57),none⟩,⟨false,[],[1000000011],.det 1 (.build bz [(0,.t 53),(1,.t 57)]),[58],(some 58),none⟩],XA 1000000011 148 58 59 59,EW 10 1000000011,ek 10 59 10 59] (zS [cO 66 8,cO 71 8,af 82 9,XB 1000000003 60 60,zIz 1000000003 10 1 60 1 61 61,ky 62 3 0 3 1,aW 67 3 0,mM 69 66 68 8 1,aW 72 3 1,mM 74 71 73 8 1,xw 76 70 75,[o5 (.build kM [(0,.t 63),(1,.t 65),(2,kO 0),(3,.t 76)]) 77 1000000003],zGs 78 77,Kr 61 61 78 79 61 61 10 79,XC 1000000003 10 80 80,zHg 1000000003 10 2 1 80 81 81,[⟨false,[],[1000000003,10],.det 1 (.res 81 (some (.t 82)) none),[83],(some 83),none⟩],wh 79 83 84 79,bO 85,rD 10 84 61 10 1 85 84] (zS [gI 86 10 2,Bg 86 4 86 4 86 86 10,gu 5] .ret))))))))
def Yl:aJ:=⟨[.rd true qx,.rd true [.d,.d]],(.tup [(true,2),(false,1)] Ct5)⟩
def M3:aH:=aA [(150,sV),(198,Ux),(146,Av),(154,lM),(192,Ia),(148,IR)]
def M4 (n:Nat):bK × aF->Option (Zt9 × Unit):=aD n M3 M0 [bz,[.i .i64,.i .i64]] Vz [] [4,5] .no
def qH:=M4 BIG
def Ym:TSp:=⟨Yl,[bz,[.i .i64,.i .i64]],Vz,[],Ou.j .no,qH⟩
theorem aj7:aM PG M3 153 Yl (M0.ht 87) .no=some (M0.wc M3,[4,5]):=by kernel_rfl
theorem ahz:Ym.Ok PG 153:=aN (aa vK (aa ady (aa BR (aa mV (aa L9 (aa PL (ak PG))))))) aj7 (by kernel_rfl)
theorem aj8 (n) (a0) (a1):M4 n (a0,a1) = (jc a0).bind fun r0=> (I_ (r0.1,a1)).bind fun r1=> ((uW a0).bind fun r2=> bif !r2.1 then some true else some !r1.1.2.2:Option (Bool)).bind fun x3=> bif x3 then some (((0:Int),[],false),()) else (ku (a0,(0:Int))).bind fun r4=> (aI n (X:=Int) (B:=Int) (fun self6 x5=> (bif decide (x5<(a0.2.length:Int)) then bnd a0.2.length x5 fun n7=> a0.2[n7]?.bind fun y8=> bnd a0.2.length x5 fun n9=> a0.2[n9]?.bind fun y10=> (uL ((y8.1,y10.2.1),a1)).bind fun r11=> some r11.1 else some false:Option (Bool)).bind fun x12=> bif x12 then self6 (IntKind.wrap .i64 (x5+(1:Int))) else some x5) (0:Int):Option (Int)).bind fun x13=> bif decide (0<=x13) then bif decide (0<=(Int.toNat x13)/\(Int.toNat x13)<=a0.2.length) then (sW (a0.1,List.take ((Int.toNat x13)-0) (List.drop 0 a0.2))).bind fun r14=> bnd r4.1.length a1.1 fun n15=> r4.1[n15]?.bind fun y16=> bnd r4.1.length a1.2 fun n17=> r4.1[n17]?.bind fun y18=> bif decide (r14.1.2.length+([(a1.1,a1.2,(0:Int),!decide (y16=y18))]).length<=4294967296) then bif decide (0<=x13) then bif decide ((Int.toNat x13)<=a0.2.length/\a0.2.length<=a0.2.length) then bif decide ((r14.1.2++([(a1.1,a1.2,(0:Int),!decide (y16=y18))])).length+(List.take (a0.2.length-(Int.toNat x13)) (List.drop (Int.toNat x13) a0.2)).length<=4294967296) then some ((r14.1.1,(r14.1.2++([(a1.1,a1.2,(0:Int),!decide (y16=y18))]))++(List.take (a0.2.length-(Int.toNat x13)) (List.drop (Int.toNat x13) a0.2)),true),()) else none else none else none else none else none else none:=by kernel_rfl
def sZ:TC:=
 (zS [a_ 4] (zS [gu 5] (zQ (.join [⟨0,fQ,false⟩,⟨5,[.b],false⟩] 34359738273 none (zS [af 10 1,jh 11 10] (.block 0 (.loop [⟨0,fQ,false⟩,⟨5,[.b],false⟩,⟨12,[.i .i64],false⟩] 34359735201 (zS [d_ 13 12 11] (zQ (zC 13 .skip (.exit 0)) (zQ (.join [⟨0,fQ,false⟩,⟨5,[.b],false⟩] 17179853729 none (.block 1 (zS [jV 14 10 12 2 2,l8 7 1000000008,cZ 7 7 15] (zS [bQ 17,zJb 1000000009 17 18 18,zHb 1000000009 18 19 19,zIz 1000000009 0 1 19 2 20 20,JD 1000000009 7 2 21 21,zGv 1000000009 153 20 21 22 22,zLd 1000000009 22 16 22 16,EW 8 1000000009,oq 8 23 8 23] (zQ (.join [⟨0,fQ,false⟩] 1041236225 none (zS [af 25 9] (zC 25 (zR [bQ 26,gI 27 8 2,gN 28 26,zJh 27 0 29 27 0 27 27 8 20]) .skip))) (.join [⟨5,[.b],false⟩] 16106127392 none (zR [af 30 5,af 31 30,cK 32 9 1,jW 31 32 33 5]))))))) (zR [kQ 34 12])))))))) (zS [af 35 5,af 4 35] .ret))))
def BS:aJ:=⟨[.mp EU,.rd false fJ],(.one false [.d])⟩
def tq:aH:=aA [(153,Ym)]
def tu (n:Nat):l_ × (List aF)->Option ((Bool) × Int × Int × List fA × Int × Bool × List aF × List Int):=aD n tq sZ [fQ,[.sl [.i .i64,.i .i64]]] [.b] fQ [4] (.mp 0)
def mh:=tu BIG
def BU:TSp:=⟨BS,[fQ,[.sl [.i .i64,.i .i64]]],[.b],fQ,Ou.j (.mp 0),mh⟩
theorem Uy:aM PG tq 69 BS (sZ.ht 36) (.mp 0)=some (sZ.wc tq,[4]):=by kernel_rfl
theorem RB:BU.Ok PG 69:=aN (aa ahz (ak PG)) Uy (by kernel_rfl)
theorem Uz (n) (a0) (a1):tu n (a0,a1) = (aI n (X:=l_ × Bool × Int) (B:=l_ × Bool) (fun self1 x0=> bif decide (x0.2.2<(a1.length:Int)) then (bnd a1.length x0.2.2 fun n2=> a1[n2]?.bind fun y3=> (qH ((x0.1.2.1,x0.1.2.2.1),y3)).bind fun r4=> (bif r4.1.2.2 then some (x0.1.1,r4.1.1,r4.1.2.1,x0.1.2.2.2) else some x0.1:Option (l_)).bind fun x5=> (bif x0.2.1 then some r4.1.2.2 else some false:Option (Bool)).bind fun x6=> some (x5,x6):Option (l_ × Bool)).bind fun x7=> self1 (x7.1,x7.2,IntKind.wrap .i64 (x0.2.2+(1:Int))) else some (x0.1,x0.2.1)) (a0,true,(0:Int)):Option (l_ × Bool)).bind fun x8=> some (x8.2,x8.1):=by kernel_rfl
def V8:TC:=
 (zS [bM 2 0,bM 3 1,zBE 4 1000000005,zGn 5 1000000006,bC 6] (zQ (.seq (.join [⟨40,[.b],false⟩] 2199023247360 none (zR [tX 13 2 7 63,jg 15 14,qz 17 3,rE 18 17 3,Bi 19 2 1 18 3,Kw 20 3 4 3 64 19 3,nO 22 21 3 16,xA 25 11 3 0,qz 27 11,rE 28 27 11,Bi 29 2 3 28 11,xy 30 26 29 11,dw 31 30 11,gU 32 18 3 0,jA 34 18,ol 35 34 18,l6 36 2 3 35 18,zHd 37 36 18,zEA 38 33 37 18,xB 31 38 39 39 11 24])) (zC 40 (zS [zDd 41,zED 42,ek 4 41 4 41,ek 5 42 5 42,iq 6 1] .ret) .skip)) (zS [tX 43 2 7 65,zBE 7 1000000008,ek 7 44 7 44] (zQ (zS [aW 45 3 0,yZ 47,iR 49 2 3 48,kP 50 46 49] (zC 50 (zS [gI 51 7 7,bO 52,nK 53 2 3 52 4,dH 54 66 53,Bg 51 4 51 4 51 51 7,ek 5 54 5 54,bC 6] .ret) .skip)) (zS [aW 55 3 0,[o1 57 (.build eX [(0,.t 56)])],zGn 8 1000000009,ek 8 57 8 57] (zQ (.join [⟨7,fQ,false⟩,⟨8,eX,false⟩] 1237940038997149898747420544 none (zS [aW 58 3 1] (.block 0 (zS [fV 65 59 2,af 64 65] (zC 64 (zS [XC 1000000010 1000000011 67 67,XE 1000000010 1000000011 7 1 67 2 68 68,XC 1000000010 1000000011 69 69,zHg 1000000010 1000000011 3 2 69 70 70,zHh 1000000010 1000000011 70 71 71,zHi 1000000010 1000000011 70 71 72 72,zKp 1000000010 1000000011 67 68 72 73 73 66 66 0 2,zHm 1000000010 1000000011 66 2 2 75 75,Tc 1000000010 1000000011 66 4 76 76,Tc 1000000010 1000000011 66 5 77 77,zHo 1000000011 9 1000000010 9,zHp 1000000010 10 1000000011 10,ek 9 74 9 74,cZ 10 10 75,af 11 76,af 12 77] (zQ (.join [⟨7,fQ,false⟩] 2115915332230780408562304 none (zS [af 78 12] (zC 78 (zR [gI 79 9 2,bO 80,zJh 79 7 80 79 7 79 79 9 68]) .skip))) (zR [af 81 12,bO 82,Bf 8 8 1 82 81]))) (zS [fV 84 59 3,af 83 84] (zC 83 (zS [aW 85 3 3,zIp 68 7 86 87 7 87,bO 88,zHs 8 87 8 2 88 87] (zR [bO 89,[o4 1 [8] (.store 8 [] 1 (.t 89) (.c [.b] [.bool true]))]])) (zR [aW 60 3 2,zIp 69 7 61 62 7 62,bO 63,Bf 8 8 1 63 62])))))))) (zS [bO 90,XD 91 7 1 90 2,dH 92 70 91,bO 93,zHs 8 92 8 3 93 92] (zS [gI 94 8 4,dH 95 66 94,bO 96,rD 7 95 91 7 3 96 95] (zS [gI 97 7 7,[⟨false,[],[4,7],.det 1 (.load 8 [] 0 .nil 4 true),[98],(some 98),none⟩],Bg 97 4 97 4 97 97 7,[⟨false,[98],[],.det 2 (.store 5 [] 0 .nil (.t 98)),[5,98,98,8,94],none,none⟩],bC 6] .ret)))))))))
def ae5:aJ:=⟨[.rd true EU,.rd true Kn],(.tup [(true,7),(true,4),(false,1)] [.d,.d,.sl (.own none) [.d,.d,.d,.d],.d,.d,.sl (.own none) [.d,.d],.sl (.own none) [.d],.d,.d,.sl (.own none) [.d,.d],.sl (.own none) [.d],.d])⟩
def V9:aH:=aA [(63,Ur),(64,Ij),(65,MZ),(66,w_),(67,I5),(68,AP),(69,BU),(70,AA)]
def V_ (n:Nat):l_ × y_->Option (Zt4 × Unit):=aD n V9 V8 [fQ,ib] Ty3 [] [4,5,6] .no
def qI:=V_ BIG
def ae6:TSp:=⟨ae5,[fQ,ib],Ty3,[],Ou.j .no,qI⟩
theorem an1:aM PG V9 14 ae5 (V8.ht 99) .no=some (V8.wc V9,[4,5,6]):=by kernel_rfl
theorem al2:ae6.Ok PG 14:=aN (aa adv (aa Ps (aa YT (aa Fj (aa PR (aa Ov (aa RB (aa JM (ak PG))))))))) an1 (by kernel_rfl)
theorem an2 (n) (a0) (a1):V_ n (a0,a1) = ((yg a0).bind fun r0=> bif !r0.1 then some true else (x_ (a0.2.1,a1)).bind fun r1=> bif !r1.1 then some true else bif !decide (a1.1=a0.2.2.2.1) then some (!decide (a1.1=(IntKind.wrap .i64 (a0.2.2.2.1+(1:Int))))) else some false:Option (Bool)).bind fun x2=> bif x2 then some (((0:Int),(0:Int),[],(0:Int),false,[],[],(0:Int),false,[],[],(1:Int)),()) else (AL a0).bind fun r3=> bif decide (a1.1=a0.2.2.2.1) then (jI a0.2.2.2).bind fun r4=> some ((r3.1.1,r3.1.2.1,r3.1.2.2.1,r3.1.2.2.2.1,r3.1.2.2.2.2.1,r3.1.2.2.2.2.2.1,r3.1.2.2.2.2.2.2,r4.1.1,r4.1.2.1,r4.1.2.2.1,r4.1.2.2.2,(0:Int)),()) else (bif decide (a1.2.1=(2:Int)) then bnd a1.2.2.1.length (0:Int) fun n5=> a1.2.2.1[n5]?.bind fun y6=> (jd ((r3.1.2.1,r3.1.2.2.1),y6)).bind fun r7=> (bif r7.1.2.2.2.2.2 then some (r3.1.1,r7.1.1,r7.1.2.1,r3.1.2.2.2) else some r3.1:Option (l_)).bind fun x8=> some (x8,(a1.1,r7.1.2.2.2.2.2,[],[])) else bif decide (a1.2.1=(3:Int)) then (lm (r3.1,a1.2.2.2)).bind fun r9=> some (r9.2,(a1.1,true,r9.1,[])) else (mh (r3.1,a1.2.2.1)).bind fun r10=> some (r10.2,(a1.1,r10.1,[],[])):Option (l_ × ko)).bind fun x11=> (mW (x11.1.2.1,x11.1.2.2.1)).bind fun r12=> (jI (x11.2.1,x11.2.2.1,x11.2.2.2.1,r12.1)).bind fun r13=> some ((x11.1.1,x11.1.2.1,x11.1.2.2.1,r13.1.1,r13.1.2.1,r13.1.2.2.1,r13.1.2.2.2,x11.2.1,x11.2.2.1,x11.2.2.2.1,r12.1,(0:Int)),()):=by kernel_rfl
def We:TC:=
 (zS [a_ 6] (zQ (.join [⟨6,[.b],false⟩] 1048512 none (zR [di 7 1 0,dW 9 8,oh 10 9,OH 11 48 7 10,af 12 11,cK 13 0 5,cK 14 1 5,kT 15 13 14 5,tV 16 13 1 15 5,cK 17 2 5,xu 18 16 17 5,jW 12 18 19 6])) .ret))
def ae7:aJ:=⟨[.rd false dY,.rd false [.d],.rd false [.d]],(.one false [.d])⟩
def Wh:aH:=aA [(48,j_)]
def Wi (n:Nat):List Int × Int × Int->Option ((Bool) × Unit):=aD n Wh We [[.sl [.i .i64]],[.i .i64],[.i .i64]] [.b] [] [6] .no
def Oa:=Wi BIG
def ae8:TSp:=⟨ae7,[[.sl [.i .i64]],[.i .i64],[.i .i64]],[.b],[],Ou.j .no,Oa⟩
theorem an3:aM PG Wh 200 ae7 (We.ht 20) .no=some (We.wc Wh,[6]):=by kernel_rfl
theorem al3:ae8.Ok PG 200:=aN (aa iU (ak PG)) an3 (by kernel_rfl)
theorem an4 (n) (a0) (a1) (a2):Wi n (a0,a1,a2) = ((dZ (a1,(0:Int),IntKind.wrap .i64 ((a0.length:Int)-(1:Int)))).bind fun r0=> bif r0.1 then bnd a0.length a1 fun n1=> a0[n1]?.bind fun y2=> some (decide (y2=a2)) else some false:Option (Bool)).bind fun x3=> some (x3,()):=by kernel_rfl
def M5:TC:=
 (zS [wm 6] (zS [wm 7] (zQ (.join [⟨7,[.sl [.i .i64,.i .i64]],false⟩] 8589934208 none (zS [af 10 1,jh 11 10] (.block 0 (.loop [⟨7,[.sl [.i .i64,.i .i64]],false⟩,⟨12,[.i .i64],false⟩] 8589931136 (zS [d_ 13 12 11] (zQ (zC 13 .skip (.exit 0)) (zQ (.join [⟨7,[.sl [.i .i64,.i .i64]],false⟩] 4294951552 none (.block 1 (zS [jV 14 10 12 2 2,l8 9 1000000010,cZ 9 9 15] (zQ (.join [⟨27,[.b],false⟩] 268369920 none (zR [qA 16 0 9 0,af 19 2,Kt 20 200 16 18 19,af 21 20,cK 22 0 5,nM 23 5 9 1 5,cK 25 2 5,[⟨false,[],[],.call 1 200 [.t 22,.t 24,.t 25] .no,[26],(some 26),some (5,true)⟩],lC 21 26 27])) (zC 27 (zR [bH 7 28 7,bS 29 9 2,E5 30 29 28 28 7]) .skip))))) (zR [kQ 32 12])))))))) (zS [om 7 33 7 6] .ret))))
def Yn:aJ:=⟨[.rd false dY,.rd false fJ,.rd false [.d]],(.one false fJ)⟩
def M6:aH:=aA [(200,ae8)]
def M7 (n:Nat):List Int × (List aF) × Int->Option ((List aF) × Unit):=aD n M6 M5 [[.sl [.i .i64]],[.sl [.i .i64,.i .i64]],[.i .i64]] [.sl [.i .i64,.i .i64]] [] [6] .no
def M8:=M7 BIG
def Yo:TSp:=⟨Yn,[[.sl [.i .i64]],[.sl [.i .i64,.i .i64]],[.i .i64]],[.sl [.i .i64,.i .i64]],[],Ou.j .no,M8⟩
theorem aj9:aM PG M6 157 Yn (M5.ht 34) .no=some (M5.wc M6,[6]):=by kernel_rfl
theorem ahA:Yo.Ok PG 157:=aN (aa al3 (ak PG)) aj9 (by kernel_rfl)
theorem aj_ (n) (a0) (a1) (a2):M7 n (a0,a1,a2) = (aI n (X:=(List aF) × Int) (B:=(List aF)) (fun self1 x0=> bif decide (x0.2<(a1.length:Int)) then (bnd a1.length x0.2 fun n2=> a1[n2]?.bind fun y3=> ((Oa (a0,y3.1,a2)).bind fun r4=> bif r4.1 then (Oa (a0,y3.2,a2)).bind fun r5=> some r5.1 else some false:Option (Bool)).bind fun x6=> bif x6 then bif decide (x0.1.length+[y3].length<=4294967296) then some (x0.1++[y3]) else none else some x0.1:Option ((List aF))).bind fun x7=> self1 (x7,IntKind.wrap .i64 (x0.2+(1:Int))) else some x0.1) ([],(0:Int)):Option ((List aF))).bind fun x8=> some (x8,()):=by kernel_rfl
def pY:TC:=
 (zS [bM 4 1,bC 6] (zQ (.join [⟨0,bu,false⟩] 1073725761 (some [⟨6,[.i .i64],false⟩,⟨0,bu,false⟩]) (zS [af 14 2,jh 15 14] (.block 0 (.loop [⟨0,bu,false⟩,⟨16,[.i .i64],false⟩] 1073676609 (zS [d_ 17 16 15] (zQ (zC 17 .skip (.exit 0)) (zQ (.block 1 (zS [jV 18 14 16 2 2,l8 8 1000000009,cZ 8 8 19] (zS [Bn 20 0 2,nN 24 8 2 155 23] (zC 25 (zS [tY 26 4 4,zJd 27 3 28 23 28,af 6 28] .ret) .skip)))) (zR [kQ 29 16])))))))) (zQ (.seq (.join [⟨49,[.b],false⟩] 1125898833100800 none (zR [bQ 32,aW 30 4 2,gN 33 32,iR 35 0 0 34,oh 36 35,OH 37 48 31 36,jg 38 37,gJ 40 9 4 3 9,[o2 42 (.p0) 9 false],zJg 43 42 9,rE 44 43 9,zJi 45 0 3 44 9,OG 46 45 9,zEg 48 41 1 46 47 47 9,nL 48 47 9 39])) (zC 49 (zS [tY 50 4 4,zIb 73 51 3 52 52,af 6 52] .ret) .skip)) (zQ (.join [⟨0,bu,false⟩] 590286803159450911745 none (zS [af 53 2,jh 54 53] (.block 2 (.loop [⟨0,bu,false⟩,⟨55,[.i .i64],false⟩] 590259781561686688769 (zS [d_ 56 55 54] (zQ (zC 56 .skip (.exit 2)) (zQ (.block 3 (zS [jV 57 53 55 2 2,l8 10 1000000011,cZ 10 10 58] (zR [bQ 59,Bn 60 0 2,nN 64 10 2 156 63,gN 66 59,rD 0 65 63 0 2 67 65]))) (zR [kQ 68 55])))))))) (zS [Bn 69 0 1,ky 73 4 2 4 3,jy 77 72 74,zBg 0 72 0 1 1 0 77 76] (zS [bQ 78,bQ 82,ww 79 78 0 1,ww 83 82 0 2,aW 86 4 3,Kt 88 157 81 85 87,bH 88 11 88] (zQ (zS [cO 89 11,dW 90 89,fV 91 90 0] (zC 91 (zS [tY 92 4 4,[⟨false,[],[],.call 2 73 [.t 0,.t 93,kO 1] (.mp 0),[94,0,77,81,85],(some 94),none⟩],af 6 94] .ret) .skip)) (zQ (.join [⟨0,bu,false⟩] 2596108815186156682096451392643073 none (zS [cO 95 11,jh 96 95] (.block 4 (.loop [⟨0,bu,false⟩,⟨97,[.i .i64],false⟩] 2595990014196978879939281663565825 (zS [d_ 98 97 96] (zQ (zC 98 .skip (.exit 4)) (zQ (.block 5 (zS [jy 99 95 97,JC 100 11 2 99 2,l8 13 1000000014,cZ 13 13 100] (zR [bQ 101,Bn 102 0 2,nN 106 13 2 158 105,gN 108 101,rD 0 107 105 0 2 109 107]))) (zR [kQ 110 97])))))))) (zS [tY 111 4 4,aW 113 4 3,zId 11 115 11 89 95 115,zIe 4 115 116 115 116,zIf 136 0 112 114 116 117 0 116 117,af 6 117] .ret)))))))))
def AQ:aJ:=⟨[.mp kN,.rd true [.d,.d,.d,.d],.rd false fJ],(.one false [.d])⟩
def p8:aH:=aA [(155,yc),(73,oF),(48,j_),(156,vJ),(157,Yo),(158,uV),(136,oP)]
def p9 (n:Nat):dE × kr × (List aF)->Option ((Int) × Int × List Int × List aF × List (List Int) × List Int × Int × Int × Int × Int × Int × Int × Int × List aF × Int × List lU):=aD n p8 pY [bu,dD,[.sl [.i .i64,.i .i64]]] [.i .i64] bu [6] (.mp 0)
def p_:=p9 BIG
def AR:TSp:=⟨AQ,[bu,dD,[.sl [.i .i64,.i .i64]]],[.i .i64],bu,Ou.j (.mp 0),p_⟩
theorem RF:aM PG p8 75 AQ (pY.ht 118) (.mp 0)=some (pY.wc p8,[6]):=by kernel_rfl
theorem Ow:AR.Ok PG 75:=aN (aa D5 (aa sQ (aa iU (aa Ae (aa ahA (aa BP (aa uR (ak PG)))))))) RF (by kernel_rfl)
theorem RG (n) (a0) (a1) (a2):p9 n (a0,a1,a2) = (aI n (X:=dE × Int) (B:=(dE) ⊕ Zt1) (fun self1 x0=> bif decide (x0.2<(a2.length:Int)) then bnd a2.length x0.2 fun n2=> a2[n2]?.bind fun y3=> (sU (x0.1.2.2.1,y3)).bind fun r4=> bif r4.1 then (eB (x0.1,a1,(3:Int))).bind fun r5=> some (Sum.inr (r5.1,r5.2)) else self1 (x0.1,IntKind.wrap .i64 (x0.2+(1:Int))) else some (Sum.inl x0.1)) (a0,(0:Int)):Option ((dE) ⊕ Zt1)).bind fun y=>match y with | .inl x6=> ((dZ (a1.2.2.1,(0:Int),IntKind.wrap .i64 (x6.1-(1:Int)))).bind fun r7=> bif !r7.1 then some true else (dZ (a1.2.2.2,(1:Int),(x6.2.2.2.1.length:Int))).bind fun r8=> some !r8.1:Option (Bool)).bind fun x9=> bif x9 then (eB (x6,a1,(3:Int))).bind fun r10=> some (r10.1,r10.2) else (aI n (X:=dE × Int) (B:=dE) (fun self12 x11=> bif decide (x11.2<(a2.length:Int)) then bnd a2.length x11.2 fun n13=> a2[n13]?.bind fun y14=> (oG (x11.1.2.2.1,y14)).bind fun r15=> self12 ((x11.1.1,x11.1.2.1,r15.1,x11.1.2.2.2),IntKind.wrap .i64 (x11.2+(1:Int))) else some x11.1) (x6,(0:Int)):Option (dE)).bind fun x16=> bnd x16.2.1.length a1.2.2.1 fun n17=> x16.2.1[n17]?.bind fun y18=> (M8 (x16.2.1.set n17 a1.2.2.2,x16.2.2.1,a1.2.2.2)).bind fun r19=> bif decide ((r19.1.length:Int)=(0:Int)) then (eB ((x16.1,x16.2.1.set n17 a1.2.2.2,x16.2.2),a1,(1:Int))).bind fun r20=> some (r20.1,r20.2) else (aI n (X:=dE × Int) (B:=dE) (fun self22 x21=> bif decide (x21.2<(r19.1.length:Int)) then bnd r19.1.length x21.2 fun n23=> r19.1[n23]?.bind fun y24=> (nH (x21.1.2.2.1,y24)).bind fun r25=> self22 ((x21.1.1,x21.1.2.1,r25.1,x21.1.2.2.2),IntKind.wrap .i64 (x21.2+(1:Int))) else some x21.1) ((x16.1,x16.2.1.set n17 a1.2.2.2,x16.2.2),(0:Int)):Option (dE)).bind fun x26=> (iP (x26,a1,a1.2.2.2,((0:Int),(4:Int),r19.1,(0:Int)))).bind fun r27=> some (r27.1,r27.2) | .inr x6=> some (x6.1,x6.2):=by kernel_rfl
def Wj:TC:=
 (zS [bM 3 0,bM 5 2,rC 6 1000000007,bC 7] (zS [tX 11 3 15 47,rC 8 1000000009,ek 8 12 8 12] (zQ (.seq (.join [⟨43,[.b],false⟩] 17592186036224 none (zR [tX 13 3 15 12,jg 15 14,gJ 17 3 3 0 3,Kw 19 5 4 3 71 18 3,nO 21 20 3 16,wu 24 3 15 10,EZ 13 24 25 25 10,nO 26 25 10 23,dw 29 1 15,qz 30 15,rE 31 30 15,Bi 32 3 9 31 15,xy 33 29 32 15,Bl 28 33 34,xA 36 22 5 0,qz 38 22,rE 39 38 22,rE 40 39 22,Bi 41 3 10 40 22,xy 42 37 41 22,mK 35 42 43])) (zC 43 (zS [kU 44 8 15 6 6 8,bC 7] .ret) .skip)) (zS [bO 45,XD 46 8 5 45 9,zHw 9 1000000010,Bg 46 9 46 9 46 46 8] (zS [zHD 47,bO 48,zHs 8 47 8 5 48 47] (zS [mO 49 8 4,af 51 1,oh 52 51,aW 53 5 0,jy 55 50 52,zBg 8 50 8 4 1 0 55 54] (zS [af 58 1,mO 56 8 3,oh 59 58,aW 60 5 3,dH 62 72 61,jy 63 57 59,[o4 2 [8,62,45,48,49,55,63,57,56] (.store 8 [(3,1)] 0 (.t 63) (.t 62))]] (zS [bC 10] (zQ (.join [⟨8,bu,false⟩,⟨10,[.i .i64],false⟩] 309484991374600995015230720 none (.block 0 (zS [yZ 68,iR 70 9 1 69,zDf 71 70 4,af 67 71] (zC 67 (zR [bO 72,nK 73 9 0 72 4,aW 74 5 1,dH 76 74 75,zIh 73 8 73 76 77 8 77,af 10 77]) (zS [yZ 79,iR 81 9 6 80,fV 82 81 3,af 78 82] (zC 78 (zR [bO 83,nK 84 9 0 83 4,aW 85 5 2,zIh 75 8 84 86 87 8 87,af 10 87]) (zR [bO 64,nK 65 9 0 64 4,zIn 73 8 65 1 66 8 66,af 10 66]))))))) (zS [gI 88 8 15,af 89 10,Bg 88 6 88 6 88 88 8,af 7 89] .ret))))))))))
def ae9:aJ:=⟨[.rd true kN,.rd false [.d],.rd true JA],(.tup [(true,15),(false,1)] Ct0)⟩
def Wl:aH:=aA [(47,DN),(12,BN),(71,Ej),(13,N_),(72,vE),(74,Rj),(73,oF),(75,AR)]
def Wm (n:Nat):dE × Int × ko->Option (Zt2 × Unit):=aD n Wl Wj [bu,[.i .i64],eX] Xu [] [6,7] .no
def Fp:=Wm BIG
def ae_:TSp:=⟨ae9,[bu,[.i .i64],eX],Xu,[],Ou.j .no,Fp⟩
theorem an5:aM PG Wl 15 ae9 (Wj.ht 90) .no=some (Wj.wc Wl,[6,7]):=by kernel_rfl
theorem al4:ae_.Ok PG 15:=aN (aa LX (aa Ik (aa MV (aa Q8 (aa z_ (aa Yg (aa sQ (aa Ow (ak PG))))))))) an5 (by kernel_rfl)
theorem an6 (n) (a0) (a1) (a2):Wm n (a0,a1,a2) = (vG a0).bind fun r0=> ((kX a0).bind fun r1=> bif !r1.1 then some true else (vL (a0.1,a2)).bind fun r2=> bif !r2.1 then some true else (qG a0).bind fun r3=> bif !r3.1 then some true else bif !decide (a1=a0.2.2.2.2.2.2.2.2.2.1) then some true else some (!decide (a2.1=a0.2.2.2.2.2.2.2.2.2.2.1)):Option (Bool)).bind fun x4=> bif x4 then some ((r0.1.1,r0.1.2.1,r0.1.2.2.1,r0.1.2.2.2.1,r0.1.2.2.2.2.1,r0.1.2.2.2.2.2.1,r0.1.2.2.2.2.2.2.1,r0.1.2.2.2.2.2.2.2.1,r0.1.2.2.2.2.2.2.2.2.1,r0.1.2.2.2.2.2.2.2.2.2.1,r0.1.2.2.2.2.2.2.2.2.2.2.1,r0.1.2.2.2.2.2.2.2.2.2.2.2.1,r0.1.2.2.2.2.2.2.2.2.2.2.2.2.1,r0.1.2.2.2.2.2.2.2.2.2.2.2.2.2.1,r0.1.2.2.2.2.2.2.2.2.2.2.2.2.2.2,(0:Int)),()) else bnd r0.1.2.2.2.2.1.length (IntKind.wrap .i64 (a1-(1:Int))) fun n5=> r0.1.2.2.2.2.1[n5]?.bind fun y6=> (ji a2.2.2.2).bind fun r7=> bnd r0.1.2.2.2.1.length (IntKind.wrap .i64 (a1-(1:Int))) fun n8=> r0.1.2.2.2.1[n8]?.bind fun y9=> (bif !decide (r0.1.2.2.2.2.2.2.1=(4:Int)) then (Io a2.2.1).bind fun r10=> (eB ((r0.1.1,r0.1.2.1,r0.1.2.2.1,r0.1.2.2.2.1.set n8 r7.1,r0.1.2.2.2.2.1.set n5 a2.1,(0:Int),(0:Int),(0:Int),(0:Int),(0:Int),(0:Int),(0:Int),[],(0:Int),r0.1.2.2.2.2.2.2.2.2.2.2.2.2.2.2),(r0.1.2.2.2.2.2.1,r0.1.2.2.2.2.2.2.1,r0.1.2.2.2.2.2.2.2.1,r0.1.2.2.2.2.2.2.2.2.1),r10.1)).bind fun r11=> some (r11.2,r11.1) else bif decide (r0.1.2.2.2.2.2.2.2.2.2.2.2.1=(3:Int)) then (p_ ((r0.1.1,r0.1.2.1,r0.1.2.2.1,r0.1.2.2.2.1.set n8 r7.1,r0.1.2.2.2.2.1.set n5 a2.1,(0:Int),(0:Int),(0:Int),(0:Int),(0:Int),(0:Int),(0:Int),[],(0:Int),r0.1.2.2.2.2.2.2.2.2.2.2.2.2.2.2),(r0.1.2.2.2.2.2.1,r0.1.2.2.2.2.2.2.1,r0.1.2.2.2.2.2.2.2.1,r0.1.2.2.2.2.2.2.2.2.1),a2.2.2.1)).bind fun r12=> some (r12.2,r12.1) else (eB ((r0.1.1,r0.1.2.1,r0.1.2.2.1,r0.1.2.2.2.1.set n8 r7.1,r0.1.2.2.2.2.1.set n5 a2.1,(0:Int),(0:Int),(0:Int),(0:Int),(0:Int),(0:Int),(0:Int),[],(0:Int),r0.1.2.2.2.2.2.2.2.2.2.2.2.2.2.2),(r0.1.2.2.2.2.2.1,r0.1.2.2.2.2.2.2.1,r0.1.2.2.2.2.2.2.2.1,r0.1.2.2.2.2.2.2.2.2.1),(1:Int))).bind fun r13=> some (r13.2,r13.1):Option (dE × Int)).bind fun x14=> some ((x14.1.1,x14.1.2.1,x14.1.2.2.1,x14.1.2.2.2.1,x14.1.2.2.2.2.1,x14.1.2.2.2.2.2.1,x14.1.2.2.2.2.2.2.1,x14.1.2.2.2.2.2.2.2.1,x14.1.2.2.2.2.2.2.2.2.1,x14.1.2.2.2.2.2.2.2.2.2.1,x14.1.2.2.2.2.2.2.2.2.2.2.1,x14.1.2.2.2.2.2.2.2.2.2.2.2.1,x14.1.2.2.2.2.2.2.2.2.2.2.2.2.1,x14.1.2.2.2.2.2.2.2.2.2.2.2.2.2.1,x14.1.2.2.2.2.2.2.2.2.2.2.2.2.2.2,x14.2),()):=by kernel_rfl
def Ja:TC:=
 (zS [bM 2 0,bC 4,a_ 5] (zS [eZ 7 2 14 7,af 9 1,fG 10 49 8 9,af 6 10] (zQ (zS [af 11 6,zEn 12 11 0] (zC 12 (zS [bC 4,a_ 5] .ret) .skip)) (zS [bO 13,iR 14 2 14 13,af 15 6,l9 16 14 15,OD 18 14 6 5 17,af 4 18,gu 5] .ret))))
def UA:aJ:=⟨[.rd true kN,.rd false [.d]],(.tup [(false,1),(false,1)] [.d,.d])⟩
def Jb:aH:=aA [(49,wG)]
def Jc (n:Nat):dE × Int->Option ((Int × Bool) × Unit):=aD n Jb Ja [bu,[.i .i64]] [.i .i64,.b] [] [4,5] .no
def tC:=Jc BIG
def UB:TSp:=⟨UA,[bu,[.i .i64]],[.i .i64,.b],[],Ou.j .no,tC⟩
theorem ahB:aM PG Jb 16 UA (Ja.ht 19) .no=some (Ja.wc Jb,[4,5]):=by kernel_rfl
theorem adz:UB.Ok PG 16:=aN (aa xZ (ak PG)) ahB (by kernel_rfl)
theorem ahC (n) (a0) (a1):Jc n (a0,a1) = (qF (a0.2.2.2.2.2.2.2.2.2.2.2.2.2.2,a1)).bind fun r0=> bif decide (r0.1<(0:Int)) then some (((0:Int),false),()) else bnd a0.2.2.2.2.2.2.2.2.2.2.2.2.2.2.length r0.1 fun n1=> a0.2.2.2.2.2.2.2.2.2.2.2.2.2.2[n1]?.bind fun y2=> some ((y2.2.2.2.2.2,true),()):=by kernel_rfl
def Et:TC:=
 (zS [a_ 4] (zQ (zS [af 6 0,dW 7 6,af 8 1,dW 9 8,xw 10 7 9] (zC 10 (zS [a_ 4] .ret) .skip)) (zQ (.join [] 67106864 (some [⟨4,[.b],false⟩]) (zS [bC 5] (.block 0 (.loop [⟨5,[.i .i64],false⟩] 67106864 (zQ (zS [JE 11 5 0] (zC 14 .skip (.exit 0))) (zQ (.block 1 (zS [di 17 0 5,di 21 1 5,jV 19 17 18 6 6,jV 23 21 22 6 6,[o1 25 (.eqA [.i,.i,.i,.i,.i,.i] (.t 20) (.t 24) true)]] (zC 25 (zS [a_ 4] .ret) .skip))) (zR [eF 15 5 5]))))))) (zS [gu 4] .ret))))
def PS:aJ:=⟨[.rd false Ct6,.rd false Ct6],(.one false [.d])⟩
def Eu:aH:=aA []
def Ev (n:Nat):(List lU) × (List lU)->Option ((Bool) × Unit):=aD n Eu Et [Xv,Xv] [.b] [] [4] .no
def vM:=Ev BIG
def PT:TSp:=⟨PS,[Xv,Xv],[.b],[],Ou.j .no,vM⟩
theorem adA:aM PG Eu 17 PS (Et.ht 26) .no=some (Et.wc Eu,[4]):=by kernel_rfl
theorem abI:PT.Ok PG 17:=aN (ak PG) adA (by kernel_rfl)
theorem adB (n) (a0) (a1):Ev n (a0,a1) = bif !decide ((a0.length:Int)=(a1.length:Int)) then some (false,()) else (aI n (X:=Int) (B:=(Unit) ⊕ (Bool)) (fun self1 x0=> bif decide (x0<(a0.length:Int)) then bnd a0.length x0 fun n2=> a0[n2]?.bind fun y3=> bnd a1.length x0 fun n4=> a1[n4]?.bind fun y5=> bif !(decide (y3.1=y5.1)&&(decide (y3.2.1=y5.2.1)&&(decide (y3.2.2.1=y5.2.2.1)&&(decide (y3.2.2.2.1=y5.2.2.2.1)&&(decide (y3.2.2.2.2.1=y5.2.2.2.2.1)&&(decide (y3.2.2.2.2.2=y5.2.2.2.2.2)&&true)))))) then some (Sum.inr false) else self1 (IntKind.wrap .i64 (x0+(1:Int))) else some (Sum.inl ())) (0:Int):Option ((Unit) ⊕ (Bool))).bind fun y=>match y with | .inl x6=> some (true,()) | .inr x6=> some (x6,()):=by kernel_rfl
def Jd:TC:=
 (zS [a_ 2] (zQ (zS [af 24 0,dH 25 7 24] (zC 25 (zS [gu 2] .ret) .skip)) (zS [af 27 0,dH 28 8 27,bH 28 26 28,zHr 29 26 0 15,[o5 (.ext 26 15 1) 30 26],zHr 31 26 16 4,rC 3 1000000004,zIj 5 1000000006,cZ 3 3 29,bH 30 4 30,cZ 5 5 31] (zS [aW 32 3 0,zDh 34 33,Bh 6 1000000007,ek 6 34 6 34] (zQ (.join [⟨6,eH,false⟩] 1152921470247108800 none (zS [bC 7] (.block 0 (.loop [⟨6,eH,false⟩,⟨7,[.i .i64],false⟩] 1152921470247108800 (zQ (zS [qA 35 7 3 14,kw 38 37 35] (zC 39 .skip (.exit 0))) (zQ (.join [⟨6,eH,false⟩] 1152917106560335936 none (.block 1 (zS [aW 42 3 14,af 44 7,l9 45 43 44,OD 47 43 6 5 46,zDf 48 47 3] (zC 48 (zR [af 53 7,gI 50 6 2,aW 51 3 14,l9 54 52 53,[o1 56 (.load 52 [(0,6)] 1 (.t 55) 4 false)],fG 57 9 50 56,Bo 57 49 57 2 2,[o4 2 [6,58,50] (.store 6 [] 0 .nil (.t 58))]]) .skip)))) (zR [eF 40 7 7]))))))) (zS [bS 61 3 15,nN 62 5 4 10 61,Te 63 60 63 15,yV 65 60 15,rC 8 1000000009,oq 8 64 8 64] (zS [bS 67 3 15,nN 68 5 4 11 67,Te 69 66 69 15,yV 71 66 15,rC 10 1000000011,oq 10 70 10 70] (zQ (.seq (.join [⟨91,[.b],false⟩] 4951755434775038229951283200 none (zR [af 72 9,af 73 11,xw 74 72 73,af 75 74,wu 76 3 15 3,EZ 12 76 77 77 3,nO 78 77 3 75,zJj 81 8 8,EZ 12 81 82 82 8,nO 83 82 8 80,dw 86 9 13,zIC 87 86 2 13,zJj 88 8 13,EZ 13 88 89 89 13,[o2 90 (.data (.beq true) [.t 87,.t 89]) 13 false],mK 85 90 91])) (zC 91 (zS [a_ 2] .ret) .skip)) (zQ (.join [⟨8,bu,false⟩] 2787593149816322940931807642559945592008980 (some [⟨2,[.b],false⟩]) (zS [bC 12] (.block 2 (.loop [⟨4,Ty4,false⟩,⟨8,bu,false⟩,⟨12,[.i .i64],false⟩] 2787593149816322940931807642559945592008980 (zQ (.seq (.join [⟨97,[.b],false⟩] 311960889899915829274579304448 none (zR [af 92 12,zEn 93 92 3,af 94 93,zEz 95 8 15 2,zEw 13 95 96 96 2,lC 94 96 97])) (zC 97 .skip (.exit 2))) (zQ (.join [⟨4,Ty4,false⟩,⟨8,bu,false⟩] 2787593149815060242091736554679548485296404 (some [⟨2,[.b],false⟩]) (.block 3 (zS [cO 101 4,zKw 1000000014 1000000015 102 102,zHg 1000000014 1000000015 8 9 103 104 104,[⟨false,[],[1000000014,1000000015],.det 1 (.data (.bin .sub) [.t 104,kD 1]),[105],(some 105),none⟩],zIt 1000000014 1000000015 101 105 106 106,zIu 1000000014 1000000015 4 0 106 107 107,zKw 1000000014 1000000015 108 108,XE 1000000014 1000000015 8 10 109 4 110 110,zKp 1000000014 1000000015 14 107 110 111 111 100 100 0 7,zIw 1000000014 1000000015 100 7 4 113 100 113,Tc 1000000014 1000000015 100 11 114 114,zIx 1000000015 13 1000000014 13,zIy 1000000014 14 1000000015 14,ek 13 112 13 112,oq 14 113 14 113] (zQ (zS [af 115 15,zDf 116 115 0] (zC 116 (zS [a_ 2] .ret) .skip)) (zS [cO 117 4,yZ 118,iR 120 8 9 119,oh 121 120,gI 122 13 7,jy 123 117 121,[⟨false,[122],[],.det 2 (.store 4 [(0,7)] 0 (.t 123) (.t 122)),[4,122,122,13,101,106,107,123,117],none,none⟩]] (zS [gI 125 8 15,yZ 126,iR 128 8 9 127,gI 129 14 4,Kt 130 15 125 128 129,Te 130 124 130 15,yV 132 124 15,rC 16 1000000017,oq 16 131 16 131] (zQ (.seq (.join [⟨139,[.b],false⟩] 1382907539166693915515154404602706011357184 none (zR [af 133 17,fV 134 133 0,af 135 134,zJj 136 16 2,EZ 12 136 137 137 2,nL 138 137 2 135])) (zC 139 (zS [a_ 2] .ret) .skip)) (zR [gI 140 16 15,[⟨false,[140],[],.det 2 (.store 8 [] 0 .nil (.t 140)),[8,140,140,16,110,125],none,none⟩]])))))))) (zR [yY 98 12,af 12 99]))))))) (zQ (zS [af 141 9,fV 142 141 0] (zC 142 (zS [mO 143 8 14,dW 145 144,aW 146 3 14,dW 148 147,kP 149 145 148,af 2 149] .ret) .skip)) (zS [gI 151 8 15,aW 152 5 0,fG 154 16 151 153,bH 154 150 154,yV 155 150 0,yV 156 150 1,af 18 155,af 19 156] (zS [gI 158 8 15,nN 159 5 4 10 158,Te 160 157 160 15,yV 162 157 15,rC 20 1000000021,oq 20 161 20 161] (zQ (.seq (.join [⟨190,[.b],false⟩] 3138550856001327283270671365974354546320913564984556912640 none (zR [af 163 19,jg 164 163,dw 166 21 2,zIE 167 166 2,Bl 165 167 168,qz 170 6,zJi 171 8 14 170 6,OG 172 171 6,gJ 173 6 3 14 6,OG 175 174 6,[o2 176 (.data (.bin .add) [.t 175,kD 1]) 6 false],xy 177 172 176 6,Bl 169 177 178,qz 180 16,zJi 181 8 14 180 16,Tf 182 16 3 14,[o2 185 (.res 181 none (some (.t 184))) 16 false],xA 186 16 3 14,yX 17 185 187 188 188 16,nL 189 188 16 179])) (zC 190 (zS [a_ 2] .ret) .skip)) (zS [gI 192 6 2,nN 193 5 4 9 192,Bo 194 191 194 2 2,Bh 22 1000000023,oq 22 195 22 195] (zQ (.join [⟨2,[.b],false⟩] 210624382469858841022051612622079321992464875525723999659517542404 none (zR [di 197 18 23,kP 199 197 198,af 200 199,gJ 201 3 5 1 3,zIC 203 202 4 3,dw 204 203 3,cK 205 18 7,zIg 206 205 2 7,cK 207 206 7,dw 208 23 10,zIC 209 208 1 10,dw 210 209 10,cK 211 18 13,zIg 212 211 3 13,zDt 210 212 213 213 10,zID 207 213 214 214 7,xB 204 214 215 215 3 200,af 2 216])) .ret)))))))))))))))
def UC:aJ:=⟨[.rd false dY],(.one false [.d])⟩
def Je:aH:=aA [(7,aji),(8,z8),(9,abd),(10,ae4),(11,VV),(12,BN),(13,N_),(14,ae6),(15,ae_),(16,UB),(17,PT)]
def Jf (n:Nat):List (Int)->Option ((Bool) × Unit):=aD n Je Jd [[.sl [.i .u8]]] [.b] [] [2] .no
def UD:=Jf BIG
def ahD:TSp:=⟨UC,[[.sl [.i .u8]]],[.b],[],Ou.j .no,UD⟩
theorem ahE:aM PG Je 3 UC (Jd.ht 217) .no=some (Jd.wc Je,[2]):=by kernel_rfl
theorem adC:ahD.Ok PG 3:=aN (aa anM (aa Ot (aa ajL (aa alT (aa aa7 (aa Ik (aa Q8 (aa al2 (aa al4 (aa adz (aa abI (ak PG)))))))))))) ahE (by kernel_rfl)
theorem ahF (n) (a0):Jf n a0 =
 (aaI a0).bind fun r0=>
 bif r0.1 then
  some (true,())
 else (pU a0).bind fun r1=>
 (aI n (X:=jB × Int) (B:=jB) (fun self3 x2=>
  bif decide (x2.2<(r1.1.2.2.2.2.2.2.2.2.2.2.2.2.2.2.1.length:Int)) then
   (bnd r1.1.2.2.2.2.2.2.2.2.2.2.2.2.2.2.1.length x2.2 fun n4=>
    r1.1.2.2.2.2.2.2.2.2.2.2.2.2.2.2.1[n4]?.bind fun y5=>
    bif !decide (y5.2.2.2.2.2=(3:Int)) then
     bnd r1.1.2.2.2.2.2.2.2.2.2.2.2.2.2.2.1.length x2.2 fun n6=>
     r1.1.2.2.2.2.2.2.2.2.2.2.2.2.2.2.1[n6]?.bind fun y7=>
     (H9 (x2.1,(y7.2.1,y7.2.2.1,y7.2.2.2.1,y7.2.2.2.2.1))).bind fun r8=>
     some (r8.1.1,r8.1.2.1)
    else some x2.1:Option (jB)).bind fun x9=>
   self3 (x9,IntKind.wrap .i64 (x2.2+(1:Int)))
  else some x2.1) ((r1.1.1,[]),(0:Int)):Option (jB)).bind fun x10=>
 (yB ((r1.1.1,r1.1.2.1,r1.1.2.2.1,r1.1.2.2.2.1,r1.1.2.2.2.2.1,r1.1.2.2.2.2.2.1,r1.1.2.2.2.2.2.2.1,r1.1.2.2.2.2.2.2.2.1,r1.1.2.2.2.2.2.2.2.2.1,r1.1.2.2.2.2.2.2.2.2.2.1,r1.1.2.2.2.2.2.2.2.2.2.2.1,r1.1.2.2.2.2.2.2.2.2.2.2.2.1,r1.1.2.2.2.2.2.2.2.2.2.2.2.2.1,r1.1.2.2.2.2.2.2.2.2.2.2.2.2.2.1,r1.1.2.2.2.2.2.2.2.2.2.2.2.2.2.2.1),r1.1.2.2.2.2.2.2.2.2.2.2.2.2.2.2.2.2)).bind fun r11=>
 (Fe ((r1.1.1,r1.1.2.1,r1.1.2.2.1,r1.1.2.2.2.1,r1.1.2.2.2.2.1,r1.1.2.2.2.2.2.1,r1.1.2.2.2.2.2.2.1,r1.1.2.2.2.2.2.2.2.1,r1.1.2.2.2.2.2.2.2.2.1,r1.1.2.2.2.2.2.2.2.2.2.1,r1.1.2.2.2.2.2.2.2.2.2.2.1,r1.1.2.2.2.2.2.2.2.2.2.2.2.1,r1.1.2.2.2.2.2.2.2.2.2.2.2.2.1,r1.1.2.2.2.2.2.2.2.2.2.2.2.2.2.1,r1.1.2.2.2.2.2.2.2.2.2.2.2.2.2.2.1),r1.1.2.2.2.2.2.2.2.2.2.2.2.2.2.2.2.2)).bind fun r12=>
 (bif !decide (r11.1.2.2.2.2.2.2.2.2.2.2.2.2.2.2.2=r12.1.2.2.2.2.2.2.2.2.2.2.2.2.2.2.2) then
  some true
  else (kX (r1.1.1,r1.1.2.1,r1.1.2.2.1,r1.1.2.2.2.1,r1.1.2.2.2.2.1,r1.1.2.2.2.2.2.1,r1.1.2.2.2.2.2.2.1,r1.1.2.2.2.2.2.2.2.1,r1.1.2.2.2.2.2.2.2.2.1,r1.1.2.2.2.2.2.2.2.2.2.1,r1.1.2.2.2.2.2.2.2.2.2.2.1,r1.1.2.2.2.2.2.2.2.2.2.2.2.1,r1.1.2.2.2.2.2.2.2.2.2.2.2.2.1,r1.1.2.2.2.2.2.2.2.2.2.2.2.2.2.1,r1.1.2.2.2.2.2.2.2.2.2.2.2.2.2.2.1)).bind fun r13=>
  bif !r13.1 then
   some true
  else (kX (r11.1.1,r11.1.2.1,r11.1.2.2.1,r11.1.2.2.2.1,r11.1.2.2.2.2.1,r11.1.2.2.2.2.2.1,r11.1.2.2.2.2.2.2.1,r11.1.2.2.2.2.2.2.2.1,r11.1.2.2.2.2.2.2.2.2.1,r11.1.2.2.2.2.2.2.2.2.2.1,r11.1.2.2.2.2.2.2.2.2.2.2.1,r11.1.2.2.2.2.2.2.2.2.2.2.2.1,r11.1.2.2.2.2.2.2.2.2.2.2.2.2.1,r11.1.2.2.2.2.2.2.2.2.2.2.2.2.2.1,r11.1.2.2.2.2.2.2.2.2.2.2.2.2.2.2.1)).bind fun r14=>
  bif !r14.1 then
   some true
  else (qG (r11.1.1,r11.1.2.1,r11.1.2.2.1,r11.1.2.2.2.1,r11.1.2.2.2.2.1,r11.1.2.2.2.2.2.1,r11.1.2.2.2.2.2.2.1,r11.1.2.2.2.2.2.2.2.1,r11.1.2.2.2.2.2.2.2.2.1,r11.1.2.2.2.2.2.2.2.2.2.1,r11.1.2.2.2.2.2.2.2.2.2.2.1,r11.1.2.2.2.2.2.2.2.2.2.2.2.1,r11.1.2.2.2.2.2.2.2.2.2.2.2.2.1,r11.1.2.2.2.2.2.2.2.2.2.2.2.2.2.1,r11.1.2.2.2.2.2.2.2.2.2.2.2.2.2.2.1)).bind fun r15=>
  some (!((decide (r11.1.2.2.2.2.2.2.2.2.2.2.2.2.2.2.2=(2:Int))) == r15.1)):Option (Bool)).bind fun x16=>
 bif x16 then
  some (false,())
 else (aI n (X:=(List Zt5) × dE × Int) (B:=(dE) ⊕ (Bool)) (fun self18 x17=>
  (bif decide (x17.2.2<(3:Int)) then
   (qG x17.2.1).bind fun r19=>
   some r19.1
   else some false:Option (Bool)).bind fun x20=>
  bif x20 then
   (bnd x17.1.length (IntKind.wrap .i64 (x17.2.1.2.2.2.2.2.2.2.2.2.1-(1:Int))) fun n21=>
    x17.1[n21]?.bind fun y22=>
    (qI (y22,(x17.2.1.2.2.2.2.2.2.2.2.2.2.1,x17.2.1.2.2.2.2.2.2.2.2.2.2.2.1,x17.2.1.2.2.2.2.2.2.2.2.2.2.2.2.1,x17.2.1.2.2.2.2.2.2.2.2.2.2.2.2.2.1))).bind fun r23=>
    bif !decide (r23.1.2.2.2.2.2.2.2.2.2.2.2=(0:Int)) then
     some (Sum.inr false)
    else bnd x17.1.length (IntKind.wrap .i64 (x17.2.1.2.2.2.2.2.2.2.2.2.1-(1:Int))) fun n24=>
    x17.1[n24]?.bind fun y25=>
    (Fp (x17.2.1,x17.2.1.2.2.2.2.2.2.2.2.2.1,(r23.1.2.2.2.2.2.2.2.1,r23.1.2.2.2.2.2.2.2.2.1,r23.1.2.2.2.2.2.2.2.2.2.1,r23.1.2.2.2.2.2.2.2.2.2.2.1))).bind fun r26=>
    (bif decide (r26.1.2.2.2.2.2.2.2.2.2.2.2.2.2.2.2=(0:Int)) then
     some true
     else (kX (r26.1.1,r26.1.2.1,r26.1.2.2.1,r26.1.2.2.2.1,r26.1.2.2.2.2.1,r26.1.2.2.2.2.2.1,r26.1.2.2.2.2.2.2.1,r26.1.2.2.2.2.2.2.2.1,r26.1.2.2.2.2.2.2.2.2.1,r26.1.2.2.2.2.2.2.2.2.2.1,r26.1.2.2.2.2.2.2.2.2.2.2.1,r26.1.2.2.2.2.2.2.2.2.2.2.2.1,r26.1.2.2.2.2.2.2.2.2.2.2.2.2.1,r26.1.2.2.2.2.2.2.2.2.2.2.2.2.2.1,r26.1.2.2.2.2.2.2.2.2.2.2.2.2.2.2.1)).bind fun r27=>
     some !r27.1:Option (Bool)).bind fun x28=>
    bif x28 then
     some (Sum.inr false)
    else some (Sum.inl (x17.1.set n24 (r23.1.1,r23.1.2.1,r23.1.2.2.1,r23.1.2.2.2.1,r23.1.2.2.2.2.1,r23.1.2.2.2.2.2.1,r23.1.2.2.2.2.2.2.1),(r26.1.1,r26.1.2.1,r26.1.2.2.1,r26.1.2.2.2.1,r26.1.2.2.2.2.1,r26.1.2.2.2.2.2.1,r26.1.2.2.2.2.2.2.1,r26.1.2.2.2.2.2.2.2.1,r26.1.2.2.2.2.2.2.2.2.1,r26.1.2.2.2.2.2.2.2.2.2.1,r26.1.2.2.2.2.2.2.2.2.2.2.1,r26.1.2.2.2.2.2.2.2.2.2.2.2.1,r26.1.2.2.2.2.2.2.2.2.2.2.2.2.1,r26.1.2.2.2.2.2.2.2.2.2.2.2.2.2.1,r26.1.2.2.2.2.2.2.2.2.2.2.2.2.2.2.1))):Option (((List Zt5) × dE) ⊕ (Bool))).bind fun y=>match y with
   | .inl x29=>
    self18 (x29.1,x29.2,IntKind.wrap .i64 (x17.2.2+(1:Int)))
   | .inr x29=>
    some (Sum.inr x29)
  else some (Sum.inl x17.2.1)) (r1.1.2.2.2.2.2.2.2.2.2.2.2.2.2.2.2.1,(r11.1.1,r11.1.2.1,r11.1.2.2.1,r11.1.2.2.2.1,r11.1.2.2.2.2.1,r11.1.2.2.2.2.2.1,r11.1.2.2.2.2.2.2.1,r11.1.2.2.2.2.2.2.2.1,r11.1.2.2.2.2.2.2.2.2.1,r11.1.2.2.2.2.2.2.2.2.2.1,r11.1.2.2.2.2.2.2.2.2.2.2.1,r11.1.2.2.2.2.2.2.2.2.2.2.2.1,r11.1.2.2.2.2.2.2.2.2.2.2.2.2.1,r11.1.2.2.2.2.2.2.2.2.2.2.2.2.2.1,r11.1.2.2.2.2.2.2.2.2.2.2.2.2.2.2.1),(0:Int)):Option ((dE) ⊕ (Bool))).bind fun y=>match y with
 | .inl x30=>
  bif decide (r11.1.2.2.2.2.2.2.2.2.2.2.2.2.2.2.2=(0:Int)) then
   some (decide ((x30.2.2.2.2.2.2.2.2.2.2.2.2.2.2.length:Int)=(r1.1.2.2.2.2.2.2.2.2.2.2.2.2.2.2.1.length:Int)),())
  else (tC (x30,r1.1.2.2.2.2.2.2.2.2.2.2.2.2.2.2.2.2.1)).bind fun r31=>
  (yB (x30,r1.1.2.2.2.2.2.2.2.2.2.2.2.2.2.2.2.2)).bind fun r32=>
  (bif !r31.1.2 then
   some true
   else bif !decide (r32.1.2.2.2.2.2.2.2.2.2.2.2.2.2.2.2=(0:Int)) then
    some true
   else bif !decide ((x30.2.2.2.2.2.2.2.2.2.2.2.2.2.2.length:Int)=(IntKind.wrap .i64 ((r1.1.2.2.2.2.2.2.2.2.2.2.2.2.2.2.1.length:Int)+(1:Int)))) then
    some true
   else bif decide (0<=(r1.1.2.2.2.2.2.2.2.2.2.2.2.2.2.2.1.length:Int)) then
    bif decide (0<=(Int.toNat (r1.1.2.2.2.2.2.2.2.2.2.2.2.2.2.2.1.length:Int))/\(Int.toNat (r1.1.2.2.2.2.2.2.2.2.2.2.2.2.2.2.1.length:Int))<=x30.2.2.2.2.2.2.2.2.2.2.2.2.2.2.length) then
     (vM (List.take ((Int.toNat (r1.1.2.2.2.2.2.2.2.2.2.2.2.2.2.2.1.length:Int))-0) (List.drop 0 x30.2.2.2.2.2.2.2.2.2.2.2.2.2.2),r1.1.2.2.2.2.2.2.2.2.2.2.2.2.2.2.1)).bind fun r33=>
     some !r33.1
    else none
   else none:Option (Bool)).bind fun x34=>
  bif x34 then
   some (false,())
  else (H9 (x10,r1.1.2.2.2.2.2.2.2.2.2.2.2.2.2.2.2.2)).bind fun r35=>
  (bif decide (r31.1.1=r35.1.2.2) then
   some true
   else bif decide (r1.1.2.2.2.2.2.2.2.2.2.2.2.2.2.2.2.2.2.1=(4:Int)) then
    bif decide (r31.1.1=(2:Int)) then
     some true
    else bif decide (r35.1.2.2=(1:Int)) then
     some (decide (r31.1.1=(3:Int)))
    else some false
   else some false:Option (Bool)).bind fun x36=>
  some (x36,())
 | .inr x30=>
  some (x30,()):=by kernel_rfl
end
end Go.Fw
