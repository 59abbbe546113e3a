/- The given functions, as what they compute; each is shown to be what the code does. No conditions. -/
import Derived.Test.YtbdciplhpomakaaGreatX0
set_option linter.unusedVariables false
set_option linter.unusedSimpArgs false
set_option linter.unusedSectionVars false
namespace Go.Fw
noncomputable section
def VH:TC:=
 (zS [bM 2 0,bM 3 1,zBE 4 1000000005,zGn 5 1000000006,bC 6] (zQ (.seq (.join [⟨45,[.b],false⟩] 70368743915520 none (zR [tX 18 2 7 118,jg 20 19,qz 22 3,rE 23 22 3,Bi 24 2 1 23 3,Kw 25 3 4 3 119 24 3,nO 27 26 3 21,xA 30 11 3 0,qz 32 11,rE 33 32 11,Bi 34 2 3 33 11,xy 35 31 34 11,dw 36 35 11,gU 37 18 3 0,jA 39 18,ol 40 39 18,l6 41 2 3 40 18,zHd 42 41 18,zEA 43 38 42 18,xB 36 43 44 44 11 29])) (zC 45 (zS [zDd 46,zED 47,ek 4 46 4 46,ek 5 47 5 47,iq 6 1] .ret) .skip)) (zQ (zS [aW 48 3 0,yZ 50,iR 52 2 3 51,kP 53 49 52] (zC 53 (zS [tX 54 2 7 115,bO 56,nK 57 2 3 56 4,dH 58 120 57,ek 4 55 4 55,ek 5 58 5 58,bC 6] .ret) .skip)) (zS [aW 59 3 0,[o5 (.build eX [(0,.t 60),(1,.c [.b] [.bool true])]) 61 1000000002],zGn 7 1000000008,ek 7 61 7 61] (zS [[⟨false,[],[3000002002],.det 1 (.idx .nil),[62,2,50,51],(some 62),none⟩],nK 63 2 1 62 2,EW 8 1000000009,cZ 8 8 63] (zQ (.join [⟨8,bz,false⟩,⟨7,eX,false⟩] 1461501637330902918203684832697836275582223253376 none (zS [aW 64 3 1] (.block 0 (zQ (.join [⟨66,[.b],false⟩] 516508834063867445248 none (zS [fV 67 65 1,af 66 67] (zC 66 .skip (zR [fV 68 65 4,af 66 68])))) (zC 66 (zS [bC 9] (.block 1 (.loop [⟨8,bz,false⟩,⟨7,eX,false⟩,⟨9,[.i .i64],false⟩] 19807040038270274039680339840 (zQ (zS [qA 69 9 3 2,kw 72 71 69] (zC 73 .skip (.exit 1))) (zQ (.join [⟨8,bz,false⟩,⟨7,eX,false⟩] 19806965070702358484062571904 none (.block 2 (zS [af 80 9,JD 1000000011 8 2 77 77,xz 1000000011 78 78 3 2,zHa 1000000011 79 80 81 81,[⟨false,[],[1000000011],.det 1 (.load 79 [(0,2)] 0 (.t 81) 2 false),[82],(some 82),none⟩],zGv 1000000011 121 77 82 83 83,zLd 1000000011 83 76 83 76,EW 10 1000000011,oq 10 84 10 84] (zQ (.join [⟨8,bz,false⟩] 232113757366008801543587072 none (zS [af 86 11] (zC 86 (zR [[⟨false,[],[3000010001],.det 1 (.load 10 [] 0 .nil 2 false),[87,10],(some 87),none⟩],cZ 8 8 87]) .skip))) (.join [⟨7,eX,false⟩] 19497555618744739329661206656 none (zR [aW 88 7 1,af 90 89,cK 91 11 2,lC 90 91 92,bO 93,Bf 7 7 1 93 92])))))) (zR [eF 74 9 9])))))) (zS [fV 95 65 2,af 94 95] (zC 94 (zS [zHe 1000000013 1000000014 8 97 97,XC 1000000013 1000000014 98 98,zHg 1000000013 1000000014 3 2 98 99 99,zHh 1000000013 1000000014 99 100 100,zHi 1000000013 1000000014 99 100 101 101,zKo 1000000013 1000000014 122 97 101 102 102 96 96,zHm 1000000013 1000000014 96 0 2 103 103,zHm 1000000013 1000000014 96 2 2 104 104,Tc 1000000013 1000000014 96 4 105 105,Tc 1000000013 1000000014 96 5 106 106,zHo 1000000014 12 1000000013 12,zHp 1000000013 13 1000000014 13,cZ 12 12 103,cZ 13 13 104,af 14 105,af 15 106] (zQ (.join [⟨8,bz,false⟩] 486777830487640090174734030864640 none (zS [af 107 15] (zC 107 (zR [bS 108 12 2,cZ 8 8 108]) .skip))) (zR [af 109 15,bO 110,Bf 7 7 1 110 109]))) (zS [fV 112 65 3,af 111 112] (zC 111 (zS [tX 113 8 2 123,[o5 (.ext 114 1 1) 115 114],bH 115 16 115] (zS [bC 17] (.block 3 (.loop [⟨8,bz,false⟩,⟨7,eX,false⟩,⟨17,[.i .i64],false⟩] 1461501637330819841453948275474226531714665152896 (zQ (zS [af 116 17,cO 117 16,kw 118 117 116] (zC 119 .skip (.exit 3))) (zQ (.join [⟨8,bz,false⟩,⟨7,eX,false⟩] 1461501637325586006220545169224667791414811165056 none (.block 4 (zQ (.join [⟨139,[.b],false⟩] 1393791257996180806682490776812281472745472 none (zR [cO 122 16,af 123 17,l9 124 122 123,yT 126 16 2 125,aW 127 3 3,kP 129 126 128,af 130 129,zHq 16 131 131 8,dw 132 17 8,Ku 133 131 132 8,rE 134 133 8,[o2 135 (.load 16 [(0,2)] 1 (.t 134) 1 false) 8 false],gJ 136 8 3 3 8,zDs 138 135 137 8,mK 130 138 139])) (zC 139 (zS [cO 142 16,af 143 17,bS 141 8 2,jy 144 142 143,JC 145 16 2 144 2,fG 146 122 141 145,bH 146 140 146,zHr 147 140 0 2,zHr 148 140 2 2,yV 149 140 4,yV 150 140 5,cZ 8 8 147] (zR [cO 153 16,af 154 17,mO 151 7 2,jy 155 153 154,JC 156 16 2 155 2,Xx 157 156,Kr 152 152 157 158 152 152 7 158,bO 159,rD 7 158 152 7 2 159 158])) .skip)))) (zR [yY 120 17,af 17 121]))))))) .skip))))))))) (zS [tX 160 8 2 124,bO 162,zHs 7 161 7 3 162 161] (zS [aW 163 2 0,bS 165 8 2,gI 166 7 4,[o1 167 (.build fQ [(0,.t 164),(1,.t 165),(3,.t 166)])],dH 168 115 167,gI 169 7 4,dH 170 120 169,ek 4 168 4 168,ek 5 170 5 170,bC 6] .ret))))))))
def aeY:aJ:=⟨[.rd true EU,.rd true Kn],(.tup [(true,7),(true,4),(false,1)] [.d,.d,.sl (.own none) [.d,.d,.d,.d],.d,.d,.sl (.own none) [.d,.d],.sl (.own none) [.d],.d,.d,.sl (.own none) [.d,.d],.sl (.own none) [.d],.d])⟩
def VI:aH:=aA [(118,TG),(119,GV),(115,TJ),(120,pM),(121,XW),(122,TN),(123,rH),(124,zw)]
def VJ (n:Nat):l_ × y_->Option (Zt4 × Unit):=aD n VI VH [fQ,ib] Ty3 [] [4,5,6] .no
def lL:=VJ BIG
def VK:TSp:=⟨aeY,[fQ,ib],Ty3,[],Ou.j .no,lL⟩
theorem anR:aM PG VI 40 aeY (VH.ht 171) .no=some (VH.wc VI,[4,5,6]):=by kernel_rfl
theorem aaX:VK.Ok PG 40:=aN (aa acY (aa O5 (aa acZ (aa xC (aa agV (aa ac0 (aa vg (aa JG (ak PG))))))))) anR (by kernel_rfl)
theorem anS (n) (a0) (a1):VJ n (a0,a1) = ((xS a0).bind fun r0=> bif !r0.1 then some true else (xU (a0.2.1,a1)).bind fun r1=> bif !r1.1 then some true else bif !decide (a1.1=a0.2.2.2.1) then some (!decide (a1.1=(IntKind.wrap .i64 (a0.2.2.2.1+(1:Int))))) else some false:Option (Bool)).bind fun x2=> bif x2 then some (((0:Int),(0:Int),[],(0:Int),false,[],[],(0:Int),false,[],[],(1:Int)),()) else bif decide (a1.1=a0.2.2.2.1) then (rY a0).bind fun r3=> (ic a0.2.2.2).bind fun r4=> some ((r3.1.1,r3.1.2.1,r3.1.2.2.1,r3.1.2.2.2.1,r3.1.2.2.2.2.1,r3.1.2.2.2.2.2.1,r3.1.2.2.2.2.2.2,r4.1.1,r4.1.2.1,r4.1.2.2.1,r4.1.2.2.2,(0:Int)),()) else ((bif decide (a1.2.1=(1:Int)) then some true else some (decide (a1.2.1=(4:Int))):Option (Bool)).bind fun x5=> bif x5 then aI n (X:=bK × ko × Int) (B:=bK × ko) (fun self7 x6=> bif decide (x6.2.2<(a1.2.2.1.length:Int)) then (bnd a1.2.2.1.length x6.2.2 fun n8=> a1.2.2.1[n8]?.bind fun y9=> (wD (x6.1,y9)).bind fun r10=> (bif r10.1.2.2 then some (r10.1.1,r10.1.2.1) else some x6.1:Option (bK)).bind fun x11=> (bif x6.2.1.2.1 then some (x6.2.1.1,r10.1.2.2,x6.2.1.2.2) else some (x6.2.1.1,false,x6.2.1.2.2):Option (ko)).bind fun x12=> some (x11,x12):Option (bK × ko)).bind fun x13=> self7 (x13.1,x13.2,IntKind.wrap .i64 (x6.2.2+(1:Int))) else some (x6.1,x6.2.1)) ((a0.2.1,a0.2.2.1),(a1.1,true,[],[]),(0:Int)) else bif decide (a1.2.1=(2:Int)) then bnd a1.2.2.1.length (0:Int) fun n14=> a1.2.2.1[n14]?.bind fun y15=> (jZ ((a0.2.1,a0.2.2.1),y15)).bind fun r16=> (bif r16.1.2.2.2.2.2 then some (r16.1.1,r16.1.2.1) else some (a0.2.1,a0.2.2.1):Option (bK)).bind fun x17=> some (x17,(a1.1,r16.1.2.2.2.2.2,[],[])) else bif decide (a1.2.1=(3:Int)) then (iZ (a0.2.1,a0.2.2.1)).bind fun r18=> aI n (X:=bK × ko × Int) (B:=bK × ko) (fun self20 x19=> bif decide (x19.2.2<(r18.1.2.length:Int)) then ((bnd r18.1.2.length x19.2.2 fun n21=> r18.1.2[n21]?.bind fun y22=> bif decide (y22.1=a1.2.2.2) then some true else bnd r18.1.2.length x19.2.2 fun n23=> r18.1.2[n23]?.bind fun y24=> some (decide (y24.2=a1.2.2.2)):Option (Bool)).bind fun x25=> bif x25 then bnd r18.1.2.length x19.2.2 fun n26=> r18.1.2[n26]?.bind fun y27=> (jZ (x19.1,y27)).bind fun r28=> bnd r18.1.2.length x19.2.2 fun n29=> r18.1.2[n29]?.bind fun y30=> bif decide (x19.2.1.2.2.1.length+[y30].length<=4294967296) then some ((r28.1.1,r28.1.2.1),(x19.2.1.1,x19.2.1.2.1,x19.2.1.2.2.1++[y30],x19.2.1.2.2.2)) else none else some (x19.1,x19.2.1):Option (bK × ko)).bind fun x31=> self20 (x31.1,x31.2,IntKind.wrap .i64 (x19.2.2+(1:Int))) else some (x19.1,x19.2.1)) ((a0.2.1,a0.2.2.1),(a1.1,true,[],[]),(0:Int)) else some ((a0.2.1,a0.2.2.1),(a1.1,true,[],[])):Option (bK × ko)).bind fun x32=> (mQ x32.1).bind fun r33=> (rY (a0.1,x32.1.1,x32.1.2,x32.2.1,x32.2.2.1,x32.2.2.2.1,r33.1)).bind fun r34=> (ic (x32.2.1,x32.2.2.1,x32.2.2.2.1,r33.1)).bind fun r35=> some ((r34.1.1,r34.1.2.1,r34.1.2.2.1,r34.1.2.2.2.1,r34.1.2.2.2.2.1,r34.1.2.2.2.2.2.1,r34.1.2.2.2.2.2.2,r35.1.1,r35.1.2.1,r35.1.2.2.1,r35.1.2.2.2,(0:Int)),()):=by kernel_rfl
def r_:TC:=
 (zS [bM 1 0,zHt 2 1000000003] (zS [S9 3,eZ 4 1 2 4,wh 3 5 6 3,bO 7,Bj 6 2 7 6] (zS [gI 8 1 4,Bg 8 2 8 2 8 8 1] .ret)))
def BA:aJ:=⟨[.rd true Kn],(.one true Kn)⟩
def si:aH:=aA []
def sj (n:Nat):y_->Option (y_ × Unit):=aD n si r_ [ib] ib [] [2] .no
def su:=sj BIG
def BB:TSp:=⟨BA,[ib],ib,[],Ou.j .no,su⟩
theorem TP:aM PG si 138 BA (r_.ht 9) .no=some (r_.wc si,[2]):=by kernel_rfl
theorem QQ:BB.Ok PG 138:=aN (ak PG) TP (by kernel_rfl)
theorem TQ (n) (a0):sj n a0 = bif decide (0+a0.2.2.1.length<=4294967296) then some ((a0.1,a0.2.1,[]++a0.2.2.1,a0.2.2.2),()) else none:=by kernel_rfl
def Hm:TC:=
 (zS [bM 1 0,rC 2 1000000003] (zS [v_ 5,eZ 6 1 1 6,wh 5 7 8 5,bO 9,Bj 8 1 9 8] (zS [S9 10,aW 11 1 2,wh 10 12 13 10,bO 14,Bj 13 2 14 13] (zS [v_ 15,aW 16 1 4,wh 15 17 18 15,bO 19,Bj 18 4 19 18] (zS [[o1 20 (.sli Xw [])],aW 21 1 14,wh 20 22 23 20,bO 24,Bj 23 14 24 23] (zS [[o1 25 (.sli [.sl [.i .i64]] [])],bH 25 3 25] (zQ (.join [⟨3,[.sl [.sl [.i .i64]]],false⟩] 8796025913368 none (zS [bC 4] (.block 0 (.loop [⟨3,[.sl [.sl [.i .i64]]],false⟩,⟨4,[.i .i64],false⟩] 8796025913368 (zQ (zS [qA 26 4 1 3,kw 29 28 26] (zC 30 .skip (.exit 0))) (zQ (.block 1 (zR [bH 3 33 3,v_ 34,aW 35 1 3,af 37 4,kv 38 36 37 1,wh 34 39 40 34,zBw 40 41 40,[⟨false,[],[],.det 3 (.app (some 33) 41),[42,33,41],(some 42),none⟩],bH 42 3 42])) (zR [eF 31 4 4]))))))) (zS [bH 3 43 3,bO 44,Bj 43 3 44 43] (zS [yZ 45,nK 47 1 10 46 4,dH 48 138 47,yZ 49,Bj 48 10 50 48] (zS [kU 51 1 15 2 2 1] .ret))))))))))
def TU:aJ:=⟨[.rd true kN],(.one true kN)⟩
def Ho:aH:=aA [(138,BB)]
def Hq (n:Nat):dE->Option (dE × Unit):=aD n Ho Hm [bu] bu [] [2] .no
def sw:=Hq BIG
def Hr:TSp:=⟨TU,[bu],bu,[],Ou.j .no,sw⟩
theorem agY:aM PG Ho 51 TU (Hm.ht 52) .no=some (Hm.wc Ho,[2]):=by kernel_rfl
theorem O7:Hr.Ok PG 51:=aN (aa QQ (ak PG)) agY (by kernel_rfl)
theorem agZ (n) (a0):Hq n a0 = bif decide (0+a0.2.1.length<=4294967296) then bif decide (0+a0.2.2.1.length<=4294967296) then bif decide (0+a0.2.2.2.2.1.length<=4294967296) then bif decide (0+a0.2.2.2.2.2.2.2.2.2.2.2.2.2.2.length<=4294967296) then (aI n (X:=(List (List Int)) × Int) (B:=(List (List Int))) (fun self1 x0=> bif decide (x0.2<(a0.2.2.2.1.length:Int)) then bnd a0.2.2.2.1.length x0.2 fun n2=> a0.2.2.2.1[n2]?.bind fun y3=> bif decide (0+y3.length<=4294967296) then bif decide (x0.1.length+([[]++y3]).length<=4294967296) then self1 (x0.1++([[]++y3]),IntKind.wrap .i64 (x0.2+(1:Int))) else none else none else some x0.1) ([],(0:Int)):Option ((List (List Int)))).bind fun x4=> (su (a0.2.2.2.2.2.2.2.2.2.2.1,a0.2.2.2.2.2.2.2.2.2.2.2.1,a0.2.2.2.2.2.2.2.2.2.2.2.2.1,a0.2.2.2.2.2.2.2.2.2.2.2.2.2.1)).bind fun r5=> some ((a0.1,[]++a0.2.1,[]++a0.2.2.1,x4,[]++a0.2.2.2.2.1,a0.2.2.2.2.2.1,a0.2.2.2.2.2.2.1,a0.2.2.2.2.2.2.2.1,a0.2.2.2.2.2.2.2.2.1,a0.2.2.2.2.2.2.2.2.2.1,r5.1.1,r5.1.2.1,r5.1.2.2.1,r5.1.2.2.2,[]++a0.2.2.2.2.2.2.2.2.2.2.2.2.2.2),()) else none else none else none else none:=by kernel_rfl
def Ht:TC:=
 (zS [bM 2 0,bC 4] (zQ (.join [] 4194288 (some [⟨4,[.i .i64],false⟩]) (zS [bC 5] (.block 0 (.loop [⟨5,[.i .i64],false⟩] 4194288 (zQ (zS [af 6 5,eZ 7 2 14 7,dW 9 8,d_ 10 6 9] (zC 10 .skip (.exit 0))) (zQ (.block 1 (zS [bO 13,iR 14 2 14 13,af 15 5,l9 16 14 15,yT 18 14 6 17,af 19 1,kP 20 18 19] (zC 20 (zS [af 21 5,af 4 21] .ret) .skip))) (zR [eF 11 5 5]))))))) (zS [zEx 4] .ret)))
def TV:aJ:=⟨[.rd true kN,.rd false [.d]],(.one false [.d])⟩
def Hu:aH:=aA []
def Hw (n:Nat):dE × Int->Option ((Int) × Unit):=aD n Hu Ht [bu,[.i .i64]] [.i .i64] [] [4] .no
def sD:=Hw BIG
def xX:TSp:=⟨TV,[bu,[.i .i64]],[.i .i64],[],Ou.j .no,sD⟩
theorem ag0:aM PG Hu 53 TV (Ht.ht 22) .no=some (Ht.wc Hu,[4]):=by kernel_rfl
theorem C9:xX.Ok PG 53:=aN (ak PG) ag0 (by kernel_rfl)
theorem ag1 (n) (a0) (a1):Hw n (a0,a1) = (aI n (X:=Int) (B:=(Unit) ⊕ (Int)) (fun self1 x0=> bif decide (x0<(a0.2.2.2.2.2.2.2.2.2.2.2.2.2.2.length:Int)) then bnd a0.2.2.2.2.2.2.2.2.2.2.2.2.2.2.length x0 fun n2=> a0.2.2.2.2.2.2.2.2.2.2.2.2.2.2[n2]?.bind fun y3=> bif decide (y3.1=a1) then some (Sum.inr x0) else self1 (IntKind.wrap .i64 (x0+(1:Int))) else some (Sum.inl ())) (0:Int):Option ((Unit) ⊕ (Int))).bind fun y=>match y with | .inl x4=> some ((-1:Int),()) | .inr x4=> some (x4,()):=by kernel_rfl
def sF:TC:=
 (zS [bM 2 0,iH 3 1] (zQ (.join [⟨4,[.b],false⟩] 2147483632 none (zR [eZ 5 2 0 5,eZ 7 3 0 7,kP 9 6 8,ow 10 9 5 2 1 5,nM 13 5 3 1 5,xu 15 12 14 5,iT 10 15 16,gU 18 12 2 3,gU 20 12 3 3,xu 22 19 21 12,iT 17 22 23,gU 25 19 2 2,gU 27 19 3 2,l7 202 26 28 29 29 19,jW 24 29 30 4])) .ret))
def BC:aJ:=⟨[.rd true Kn,.rd true Kn],(.one false [.d])⟩
def sG:aH:=aA [(202,rW)]
def sH (n:Nat):y_ × y_->Option ((Bool) × Unit):=aD n sG sF [ib,ib] [.b] [] [4] .no
def mg:=sH BIG
def BD:TSp:=⟨BC,[ib,ib],[.b],[],Ou.j .no,mg⟩
theorem TW:aM PG sG 170 BC (sF.ht 31) .no=some (sF.wc sG,[4]):=by kernel_rfl
theorem QR:BD.Ok PG 170:=aN (aa zh (ak PG)) TW (by kernel_rfl)
theorem TZ (n) (a0) (a1):sH n (a0,a1) = (bif decide (a0.1=a1.1) then bif decide (a0.2.1=a1.2.1) then bif decide (a0.2.2.2=a1.2.2.2) then (mf (a0.2.2.1,a1.2.2.1)).bind fun r0=> some r0.1 else some false else some false else some false:Option (Bool)).bind fun x1=> some (x1,()):=by kernel_rfl
def sI:TC:=
 (zS [iH 1 0] (zQ (.join [⟨2,[.b],false⟩] 262140 none (zR [bO 3,nK 4 1 0 3 4,[o1 5 (.build dD [])],zHu 6 4 5,af 7 6,jA 8 4,l6 9 1 4 8 4,OI 10 9 4,iT 7 10 11,jA 13 9,zGk 14 1 5 13 4 9,[o2 15 (.build ib []) 9 true],l7 170 14 15 16 16 9,jW 12 16 17 2])) .ret))
def BF:aJ:=⟨[.rd true Ct4],(.one false [.d])⟩
def sJ:aH:=aA [(170,BD)]
def sK (n:Nat):Zt7->Option ((Bool) × Unit):=aD n sJ sI [Km] [.b] [] [2] .no
def sM:=sK BIG
def BG:TSp:=⟨BF,[Km],[.b],[],Ou.j .no,sM⟩
theorem T9:aM PG sJ 191 BF (sI.ht 18) .no=some (sI.wc sJ,[2]):=by kernel_rfl
theorem QS:BG.Ok PG 191:=aN (aa QR (ak PG)) T9 (by kernel_rfl)
theorem T_ (n) (a0):sK n a0 = (bif (decide (a0.1=(0:Int))&&(decide (a0.2.1=(0:Int))&&(decide (a0.2.2.1=(0:Int))&&(decide (a0.2.2.2.1=(0:Int))&&true)))) then bif decide (a0.2.2.2.2.1=(0:Int)) then (mg (a0.2.2.2.2.2,((0:Int),(0:Int),[],(0:Int)))).bind fun r0=> some r0.1 else some false else some false:Option (Bool)).bind fun x1=> some (x1,()):=by kernel_rfl
def C_:TC:=
 (zS [bM 2 0,iH 3 1] (zQ (.seq (.join [⟨17,[.b],false⟩] 262112 none (zR [eZ 5 3 1 5,lD 7 42 6 4,gX 8 7,af 9 8,gJ 10 4 3 2 4,gJ 12 4 2 0 4,zEf 14 13 4,zEg 42 11 0 14 15 15 4,nL 16 15 4 9])) (zC 17 (zS [a_ 4] .ret) .skip)) (zQ (zS [aW 18 3 1] (.block 0 (zS [fV 21 19 4,af 20 21] (zC 20 (zS [ky 22 3 3 2 3,dW 26 25,zHv 27 42 23 1 26,af 4 27] .ret) (zS [fV 29 19 3,af 28 29] (zC 28 (zS [ky 30 3 3 2 0,oh 34 33,OH 35 42 31 34,af 4 35] .ret) .skip)))))) (zQ (.join [⟨4,[.b],false⟩] 562881233944592 none (zR [ky 36 3 3 2 0,oh 40 39,OH 41 42 37 40,ow 42 41 6 3 2 6,nM 45 6 3 3 6,zEA 47 44 46 6,jW 42 47 48 4])) .ret))))
def O8:aJ:=⟨[.rd true kN,.rd true [.d,.d,.d,.d]],(.one false [.d])⟩
def Da:aH:=aA [(42,dz)]
def Db (n:Nat):dE × kr->Option ((Bool) × Unit):=aD n Da C_ [bu,dD] [.b] [] [4] .no
def vz:=Db BIG
def Dc:TSp:=⟨O8,[bu,dD],[.b],[],Ou.j .no,vz⟩
theorem ac1:aM PG Da 54 O8 (C_.ht 49) .no=some (C_.wc Da,[4]):=by kernel_rfl
theorem Lh:Dc.Ok PG 54:=aN (aa cB (ak PG)) ac1 (by kernel_rfl)
theorem ac2 (n) (a0) (a1):Db n (a0,a1) = ((bg (a1.2.1,(1:Int),(4:Int))).bind fun r0=> bif !r0.1 then some true else (bg (a1.2.2.1,(0:Int),IntKind.wrap .i64 (a0.1-(1:Int)))).bind fun r1=> some !r1.1:Option (Bool)).bind fun x2=> bif x2 then some (false,()) else bif decide (a1.2.1=(4:Int)) then (bg (a1.2.2.2,(1:Int),(a0.2.2.2.1.length:Int))).bind fun r3=> some (r3.1,()) else bif decide (a1.2.1=(3:Int)) then (bg (a1.2.2.2,(0:Int),IntKind.wrap .i64 (a0.1-(1:Int)))).bind fun r4=> some (r4.1,()) else ((bg (a1.2.2.2,(0:Int),IntKind.wrap .i64 (a0.1-(1:Int)))).bind fun r5=> bif r5.1 then some (!decide (a1.2.2.1=a1.2.2.2)) else some false:Option (Bool)).bind fun x6=> some (x6,()):=by kernel_rfl
def zD:TC:=
 (zS [iH 1 0] (zS [bO 4,nK 5 1 5 4 9,zHw 3 1000000004,cZ 3 3 5] (zQ (zS [bS 6 3 9,dH 7 191 6] (zC 7 (zS [gu 2] .ret) .skip)) (zQ (.join [⟨2,[.b],false⟩] 2305843009213693700 none (zR [eZ 8 3 4 8,aW 10 1 3,dW 12 11,zHv 13 42 9 1 12,ow 14 13 6 1 0 6,jA 17 6,zGk 18 3 5 17 4 6,l7 119 16 18 19 19 6,iT 14 19 20,jA 22 13,ol 23 22 13,l6 24 3 5 23 13,gU 25 13 1 4,gU 27 13 3 4,EX 29 28 13,kT 30 26 29 13,tV 31 26 1 30 13,zHd 32 31 13,xu 33 24 32 13,iT 21 33 34,zHx 36 1 15 27,jA 37 27,ol 38 37 27,l6 39 3 0 38 27,l7 53 36 39 40 40 27,zAi 41 40 0 27,iT 35 41 42,zHx 44 1 15 35,jA 45 35,zGk 46 3 0 45 4 35,l7 54 44 46 47 47 35,iT 43 47 48,jA 50 41,ol 51 50 41,l6 52 3 1 51 41,zHy 53 52 41,iT 49 53 54,jA 56 47,ol 57 56 47,l6 58 3 0 57 47,zGd 42 58 59 59 47,jW 55 59 60 2])) .ret))))
def Li:aJ:=⟨[.rd true kN],(.one false [.d])⟩
def zF:aH:=aA [(191,BG),(42,dz),(119,GV),(53,xX),(54,Dc)]
def zG (n:Nat):dE->Option ((Bool) × Unit):=aD n zF zD [bu] [.b] [] [2] .no
def zH:=zG BIG
def Lj:TSp:=⟨Li,[bu],[.b],[],Ou.j .no,zH⟩
theorem aaY:aM PG zF 141 Li (zD.ht 61) .no=some (zD.wc zF,[2]):=by kernel_rfl
theorem YF:Lj.Ok PG 141:=aN (aa QS (aa cB (aa O5 (aa C9 (aa Lh (ak PG)))))) aaY (by kernel_rfl)
theorem aaZ (n) (a0):zG n a0 = (sM (a0.2.2.2.2.2.1,a0.2.2.2.2.2.2.1,a0.2.2.2.2.2.2.2.1,a0.2.2.2.2.2.2.2.2.1,a0.2.2.2.2.2.2.2.2.2.1,a0.2.2.2.2.2.2.2.2.2.2.1,a0.2.2.2.2.2.2.2.2.2.2.2.1,a0.2.2.2.2.2.2.2.2.2.2.2.2.1,a0.2.2.2.2.2.2.2.2.2.2.2.2.2.1)).bind fun r0=> bif r0.1 then some (true,()) else ((bg (a0.2.2.2.2.2.2.2.2.2.1,(1:Int),(a0.2.2.2.1.length:Int))).bind fun r1=> bif r1.1 then (xU (a0.1,(a0.2.2.2.2.2.2.2.2.2.2.1,a0.2.2.2.2.2.2.2.2.2.2.2.1,a0.2.2.2.2.2.2.2.2.2.2.2.2.1,a0.2.2.2.2.2.2.2.2.2.2.2.2.2.1))).bind fun r2=> bif r2.1 then bnd a0.2.2.2.2.1.length (IntKind.wrap .i64 (a0.2.2.2.2.2.2.2.2.2.1-(1:Int))) fun n3=> a0.2.2.2.2.1[n3]?.bind fun y4=> bif decide (a0.2.2.2.2.2.2.2.2.2.2.1=(IntKind.wrap .i64 (y4+(1:Int)))) then (sD (a0,a0.2.2.2.2.2.1)).bind fun r5=> bif decide (r5.1<(0:Int)) then (vz (a0,(a0.2.2.2.2.2.1,a0.2.2.2.2.2.2.1,a0.2.2.2.2.2.2.2.1,a0.2.2.2.2.2.2.2.2.1))).bind fun r6=> bif r6.1 then bif !decide (a0.2.2.2.2.2.2.1=(3:Int)) then (bg (a0.2.2.2.2.2.1,(1:Int),(100000:Int))).bind fun r7=> some r7.1 else some false else some false else some false else some false else some false else some false:Option (Bool)).bind fun x8=> some (x8,()):=by kernel_rfl
def Ll:TC:=
 (zS [iH 1 0] (zQ (.seq (.join [⟨49,[.b],false⟩] 1125899906842368 none (zR [eZ 8 1 0 8,lD 10 42 9 12,jg 11 10,gJ 13 4 1 3 4,OG 15 14 4,Kq 42 15 3 16 16 4,nO 17 16 4 12,Tf 20 11 1 4,Tf 23 11 1 3,xy 26 22 25 11,Bl 19 26 27,Tf 29 20 1 1,xA 32 20 1 0,xy 34 31 33 20,Bl 28 34 35,xA 37 28 1 0,xA 39 28 1 2,yX 139 38 40 41 41 28,nO 42 41 28 36,Tf 45 36 1 14,Xz 48 47 80 36,mK 44 48 49])) (zC 49 (zS [a_ 2] .ret) .skip)) (zQ (.join [] 37778930737057254866956 (some [⟨2,[.b],false⟩]) (zS [bC 3] (.block 0 (.loop [⟨3,[.i .i64],false⟩] 37778930737057254866956 (zQ (zS [qA 50 3 1 3,kw 53 52 50] (zC 54 .skip (.exit 0))) (zQ (.join [] 37778787747769085853700 (some [⟨2,[.b],false⟩]) (.block 1 (zQ (.join [⟨74,[.b],false⟩] 37778787747769085853696 none (zR [af 61 3,ky 57 1 0 1 3,kv 62 60 61 1,fG 64 140 58 63,jg 65 64,gJ 67 9 1 4 9,dw 69 3 9,Ku 70 68 69 9,Ta 71 68 1 70 9,zHz 42 71 0 99991 72 72 9,nL 73 72 9 66])) (zC 74 (zS [a_ 2] .ret) .skip)))) (zR [eF 55 3 3]))))))) (zQ (.join [] 2475842299638897592636538900 (some [⟨2,[.b],false⟩]) (zS [bC 4] (.block 2 (.loop [⟨4,[.i .i64],false⟩] 2475842299638897592636538900 (zQ (zS [qA 75 4 1 0,d_ 78 75 77] (zC 78 .skip (.exit 2))) (zQ (.block 3 (zS [af 83 4,aW 81 1 1,kv 84 82 83 1,aW 86 1 3,dW 88 87,zHv 89 42 85 1 88,gX 90 89] (zC 90 (zS [a_ 2] .ret) .skip))) (zR [eF 79 4 4]))))))) (zQ (.join [] 664613995416577857881142980341923876 (some [⟨2,[.b],false⟩]) (zS [bC 5] (.block 4 (.loop [⟨5,[.i .i64],false⟩] 664613995416577857881142980341923876 (zQ (zS [qA 91 5 1 2,kw 94 93 91] (zC 95 .skip (.exit 4))) (zQ (.block 5 (zS [af 102 5,af 112 5,ky 98 1 1 1 2,l9 103 101 102,yT 105 101 2 104,kv 106 99 105 1,ky 108 1 1 1 2,l9 113 111 112,OD 115 111 2 1 114,kv 116 109 115 1,kP 118 107 117] (zC 118 (zS [a_ 2] .ret) .skip))) (zR [eF 96 5 5]))))))) (zQ (.join [] 2854495384747305764224114002447086742625321156 (some [⟨2,[.b],false⟩]) (zS [bC 6] (.block 6 (.loop [⟨6,[.i .i64],false⟩] 2854495384747305764224114002447086742625321156 (zQ (zS [qA 119 6 1 14,kw 122 121 119] (zC 123 .skip (.exit 6))) (zQ (.join [] 2854495300341328031881956073055338414823440516 (some [⟨2,[.b],false⟩]) (.block 7 (zS [aW 126 1 14,af 128 6,jV 129 127 128 6 6,zHA 7 1000000008,cZ 7 7 130] (zQ (.join [⟨150,[.b],false⟩] 2854492663152984394608864231902130818619801600 none (zR [aW 131 7 0,yZ 133,iR 135 7 1 134,xw 136 132 135,af 137 136,gJ 138 6 7 5 6,Kq 42 139 3 140 140 6,nO 141 140 6 137,wu 144 1 15 12,xA 145 12 7 0,yX 53 144 146 147 147 12,dw 148 6 12,xy 149 147 148 12,mK 143 149 150])) (zC 150 (zS [a_ 2] .ret) .skip))))) (zR [eF 124 6 6]))))))) (zS [tX 151 1 15 141,af 2 152] .ret)))))))
def XX:aJ:=⟨[.rd true kN],(.one false [.d])⟩
def Lm:aH:=aA [(42,dz),(139,oC),(140,zo),(53,xX),(141,Lj)]
def Lp (n:Nat):dE->Option ((Bool) × Unit):=aD n Lm Ll [bu] [.b] [] [2] .no
def wE:=Lp BIG
def Lr:TSp:=⟨XX,[bu],[.b],[],Ou.j .no,wE⟩
theorem ajC:aM PG Lm 52 XX (Ll.ht 153) .no=some (Ll.wc Lm,[2]):=by kernel_rfl
theorem Ua:Lr.Ok PG 52:=aN (aa cB (aa rM (aa JF (aa C9 (aa YF (ak PG)))))) ajC (by kernel_rfl)
theorem ajD (n) (a0):Lp n a0 =
 ((bg (a0.1,(1:Int),(12:Int))).bind fun r0=>
  bif !r0.1 then
   some true
  else (bg ((a0.2.2.2.1.length:Int),(1:Int),(3:Int))).bind fun r1=>
  bif !r1.1 then
   some true
  else bif !decide ((a0.2.2.2.2.1.length:Int)=(a0.2.2.2.1.length:Int)) then
   some true
  else bif !decide ((a0.2.1.length:Int)=a0.1) then
   some true
  else (lJ (a0.1,a0.2.2.1)).bind fun r2=>
  bif !r2.1 then
   some true
  else some (decide ((80:Int)<(a0.2.2.2.2.2.2.2.2.2.2.2.2.2.2.length:Int))):Option (Bool)).bind fun x3=>
 bif x3 then
  some (false,())
 else (aI n (X:=Int) (B:=(Unit) ⊕ (Bool)) (fun self5 x4=>
  bif decide (x4<(a0.2.2.2.1.length:Int)) then
   ((bnd a0.2.2.2.1.length x4 fun n6=>
    a0.2.2.2.1[n6]?.bind fun y7=>
    (rX (a0.1,y7)).bind fun r8=>
    bif !r8.1 then
     some true
    else bnd a0.2.2.2.2.1.length x4 fun n9=>
    a0.2.2.2.2.1[n9]?.bind fun y10=>
    (bg (y10,(0:Int),(99991:Int))).bind fun r11=>
    some !r11.1:Option (Bool)).bind fun x12=>
    bif x12 then
     some (Sum.inr false)
    else some (Sum.inl ()):Option ((Unit) ⊕ (Bool))).bind fun y=>match y with
   | .inl x13=>
    self5 (IntKind.wrap .i64 (x4+(1:Int)))
   | .inr x13=>
    some (Sum.inr x13)
  else some (Sum.inl ())) (0:Int):Option ((Unit) ⊕ (Bool))).bind fun y=>match y with
 | .inl x14=>
  (aI n (X:=Int) (B:=(Unit) ⊕ (Bool)) (fun self16 x15=>
   bif decide (x15<a0.1) then
    bnd a0.2.1.length x15 fun n17=>
    a0.2.1[n17]?.bind fun y18=>
    (bg (y18,(1:Int),(a0.2.2.2.1.length:Int))).bind fun r19=>
    bif !r19.1 then
     some (Sum.inr false)
    else self16 (IntKind.wrap .i64 (x15+(1:Int)))
   else some (Sum.inl ())) (0:Int):Option ((Unit) ⊕ (Bool))).bind fun y=>match y with
  | .inl x20=>
   (aI n (X:=Int) (B:=(Unit) ⊕ (Bool)) (fun self22 x21=>
    bif decide (x21<(a0.2.2.1.length:Int)) then
     bnd a0.2.2.1.length x21 fun n23=>
     a0.2.2.1[n23]?.bind fun y24=>
     bnd a0.2.1.length y24.1 fun n25=>
     a0.2.1[n25]?.bind fun y26=>
     bnd a0.2.2.1.length x21 fun n27=>
     a0.2.2.1[n27]?.bind fun y28=>
     bnd a0.2.1.length y28.2 fun n29=>
     a0.2.1[n29]?.bind fun y30=>
     bif decide (y26=y30) then
      some (Sum.inr false)
     else self22 (IntKind.wrap .i64 (x21+(1:Int)))
    else some (Sum.inl ())) (0:Int):Option ((Unit) ⊕ (Bool))).bind fun y=>match y with
   | .inl x31=>
    (aI n (X:=Int) (B:=(Unit) ⊕ (Bool)) (fun self33 x32=>
     bif decide (x32<(a0.2.2.2.2.2.2.2.2.2.2.2.2.2.2.length:Int)) then
      (bnd a0.2.2.2.2.2.2.2.2.2.2.2.2.2.2.length x32 fun n34=>
       a0.2.2.2.2.2.2.2.2.2.2.2.2.2.2[n34]?.bind fun y35=>
       (bif !decide (y35.1=y35.2.1) then
        some true
        else (bg (y35.2.2.2.2.2,(1:Int),(3:Int))).bind fun r36=>
        bif !r36.1 then
         some true
        else (sD (a0,y35.1)).bind fun r37=>
        some (!decide (r37.1=x32)):Option (Bool)).bind fun x38=>
       bif x38 then
        some (Sum.inr false)
       else some (Sum.inl ()):Option ((Unit) ⊕ (Bool))).bind fun y=>match y with
      | .inl x39=>
       self33 (IntKind.wrap .i64 (x32+(1:Int)))
      | .inr x39=>
       some (Sum.inr x39)
     else some (Sum.inl ())) (0:Int):Option ((Unit) ⊕ (Bool))).bind fun y=>match y with
    | .inl x40=>
     (zH a0).bind fun r41=>
     some (r41.1,())
    | .inr x40=>
     some (x40,())
   | .inr x31=>
    some (x31,())
  | .inr x20=>
   some (x20,())
 | .inr x14=>
  some (x14,()):=by kernel_rfl
def De:TC:=
 (zS [bM 4 1] (zS [bQ 6,bQ 7,af 14 2,qy 8 7,yU 9 8,zBr 10 0 14 9,aW 11 4 0,bS 13 4 4,zHB 15 12 13 14,zHC 16 15,Kr 10 10 16 17 10 10 0 17,gN 18 6,rD 0 17 10 0 14 19 17] (zR [bQ 20,zHD 21,gN 22 20,zHs 0 21 0 5 23 21])))
def O9:aJ:=⟨[.mp [.d,.sl (.own none) [.d],.sl (.ro []) [.d,.d],.sl (.own none) dY,.sl (.own none) [.d],.d,.d,.d,.d,.d,.d,.d,.sl (.own none) [.d,.d],.d,.sl (.own none) aau],.rd true [.d,.d,.d,.d],.rd false [.d]],.u⟩
def Df:aH:=aA []
def Dg (n:Nat):dE × kr × Int->Option ((Unit) × Int × List Int × List aF × List (List Int) × List Int × Int × Int × Int × Int × Int × Int × Int × List aF × Int × List lU):=aD n Df De [bu,dD,[.i .i64]] [] bu [] (.mp 0)
def vC:=Dg BIG
def O_:TSp:=⟨O9,[bu,dD,[.i .i64]],[],bu,Ou.j (.mp 0),vC⟩
theorem ac3:aM PG Df 55 O9 (De.ht 24) (.mp 0)=some (De.wc Df,[]):=by kernel_rfl
theorem aa0:O_.Ok PG 55:=aN (ak PG) ac3 (by kernel_rfl)
theorem ac4 (n) (a0) (a1) (a2):Dg n (a0,a1,a2) = bif decide (a0.2.2.2.2.2.2.2.2.2.2.2.2.2.2.length+([(a1.1,a1.1,a1.2.1,a1.2.2.1,a1.2.2.2,a2)]).length<=4294967296) then some ((),(a0.1,a0.2.1,a0.2.2.1,a0.2.2.2.1,a0.2.2.2.2.1,(0:Int),(0:Int),(0:Int),(0:Int),(0:Int),(0:Int),(0:Int),[],(0:Int),a0.2.2.2.2.2.2.2.2.2.2.2.2.2.2++([(a1.1,a1.1,a1.2.1,a1.2.2.1,a1.2.2.2,a2)]))) else none:=by kernel_rfl
def Ls:TC:=
 (zS [wm 6] (zS [S9 10,bH 10 7 10] (zQ (.join [⟨7,[.sl [.i .i64,.i .i64]],false⟩] 144115188075854720 none (zS [bC 8] (.block 0 (.loop [⟨7,[.sl [.i .i64,.i .i64]],false⟩,⟨8,[.i .i64],false⟩] 144115188075854720 (zQ (zS [JE 11 8 1] (zC 14 .skip (.exit 0))) (zQ (.join [⟨7,[.sl [.i .i64,.i .i64]],false⟩] 144115188075725440 none (.block 1 (zS [OM 17 1 8 2 2,l8 9 1000000010,cZ 9 9 20] (zQ (.join [⟨52,[.b],false⟩] 9007199252643840 none (zR [aW 21 9 0,af 23 0,dW 24 23,oh 25 24,OH 26 42 22 25,ow 27 26 6 9 1 6,cK 30 0 6,zEr 31 30 6,EX 32 31 6,Xy 42 29 32 33 33 6,iT 27 33 34,cK 36 0 14,gU 37 14 9 0,kT 39 36 38 14,tV 40 36 1 39 14,cK 41 2 14,xu 42 40 41 14,iT 35 42 43,cK 45 0 23,gU 46 23 9 1,kT 48 45 47 23,tV 49 45 1 48 23,cK 50 2 23,xu 51 49 50 23,lC 44 51 52])) (zC 52 (zR [bH 7 53 7,bS 54 9 2,E5 55 54 53 53 7]) .skip))))) (zR [eF 15 8 8]))))))) (zS [om 7 57 7 6] .ret))))
def XY:aJ:=⟨[.rd false dY,.rd false fJ,.rd false [.d]],(.one false fJ)⟩
def Lt:aH:=aA [(42,dz)]
def Lu (n:Nat):List Int × (List aF) × Int->Option ((List aF) × Unit):=aD n Lt Ls [[.sl [.i .i64]],[.sl [.i .i64,.i .i64]],[.i .i64]] [.sl [.i .i64,.i .i64]] [] [6] .no
def Lv:=Lu BIG
def XZ:TSp:=⟨XY,[[.sl [.i .i64]],[.sl [.i .i64,.i .i64]],[.i .i64]],[.sl [.i .i64,.i .i64]],[],Ou.j .no,Lv⟩
theorem ajE:aM PG Lt 163 XY (Ls.ht 58) .no=some (Ls.wc Lt,[6]):=by kernel_rfl
theorem ag2:XZ.Ok PG 163:=aN (aa cB (ak PG)) ajE (by kernel_rfl)
theorem ajF (n) (a0) (a1) (a2):Lu n (a0,a1,a2) = (aI n (X:=(List aF) × Int) (B:=(List aF)) (fun self1 x0=> bif decide (x0.2<(a1.length:Int)) then (bnd a1.length x0.2 fun n2=> a1[n2]?.bind fun y3=> ((bg (y3.1,(0:Int),IntKind.wrap .i64 ((a0.length:Int)-(1:Int)))).bind fun r4=> bif r4.1 then (bg (y3.2,(0:Int),IntKind.wrap .i64 ((a0.length:Int)-(1:Int)))).bind fun r5=> bif r5.1 then bnd a0.length y3.1 fun n6=> a0[n6]?.bind fun y7=> bif decide (y7=a2) then bnd a0.length y3.2 fun n8=> a0[n8]?.bind fun y9=> some (decide (y9=a2)) else some false else some false else some false:Option (Bool)).bind fun x10=> bif x10 then bif decide (x0.1.length+[y3].length<=4294967296) then some (x0.1++[y3]) else none else some x0.1:Option ((List aF))).bind fun x11=> self1 (x11,IntKind.wrap .i64 (x0.2+(1:Int))) else some x0.1) ([],(0:Int)):Option ((List aF))).bind fun x12=> some (x12,()):=by kernel_rfl
def wP:TC:=
 (zS [bM 3 1,wm 4] (zS [S9 7,bH 7 5 7] (zQ (.join [⟨5,[.sl [.i .i64,.i .i64]],false⟩] 134217568 none (zS [bC 6] (.block 0 (.loop [⟨5,[.sl [.i .i64,.i .i64]],false⟩,⟨6,[.i .i64],false⟩] 134217568 (zQ (zS [di 8 6 0,kw 10 9 8] (zC 11 .skip (.exit 0))) (zQ (.join [⟨5,[.sl [.i .i64,.i .i64]],false⟩] 134201376 none (.block 1 (zS [OM 14 0 6 2 2,bS 18 3 2,zEC 19 17 18] (zC 19 (zR [bH 5 20 5,OM 21 0 6 2 2,E5 25 24 20 20 5]) .skip)))) (zR [eF 12 6 6]))))))) (zS [om 5 27 5 4] .ret))))
def JH:aJ:=⟨[.rd false fJ,.rd true [.d,.d]],(.one false fJ)⟩
def wQ:aH:=aA []
def wR (n:Nat):(List aF) × aF->Option ((List aF) × Unit):=aD n wQ wP [[.sl [.i .i64,.i .i64]],[.i .i64,.i .i64]] [.sl [.i .i64,.i .i64]] [] [4] .no
def lF:=wR BIG
def oN:TSp:=⟨JH,[[.sl [.i .i64,.i .i64]],[.i .i64,.i .i64]],[.sl [.i .i64,.i .i64]],[],Ou.j .no,lF⟩
theorem YG:aM PG wQ 131 JH (wP.ht 28) .no=some (wP.wc wQ,[4]):=by kernel_rfl
theorem uF:oN.Ok PG 131:=aN (ak PG) YG (by kernel_rfl)
theorem YH (n) (a0) (a1):wR n (a0,a1) = (aI n (X:=(List aF) × Int) (B:=(List aF)) (fun self1 x0=> bif decide (x0.2<(a0.length:Int)) then (bnd a0.length x0.2 fun n2=> a0[n2]?.bind fun y3=> bif !(decide (y3.1=a1.1)&&(decide (y3.2=a1.2)&&true)) then bnd a0.length x0.2 fun n4=> a0[n4]?.bind fun y5=> bif decide (x0.1.length+[y5].length<=4294967296) then some (x0.1++[y5]) else none else some x0.1:Option ((List aF))).bind fun x6=> self1 (x6,IntKind.wrap .i64 (x0.2+(1:Int))) else some x0.1) ([],(0:Int)):Option ((List aF))).bind fun x7=> some (x7,()):=by kernel_rfl
def zI:TC:=
 (zS [bM 5 1,[o5 (.a (.t 3)) 7 3],bC 8] (zS [bQ 9,ww 10 9 0 4,af 13 2,oh 14 13,Bp 15 12 14 0 4 1,Be 17 16,bO 18,Bf 7 7 0 18 17] (zS [tY 19 5 4,af 21 2,gI 22 7 4,zHE,gN 24 19,zIa 0 23 12 15 0 5 25 23] (zS [iq 8 2] .ret))))
def Lx:aJ:=⟨[.mp [.d,.sl (.own none) [.d],.sl (.ro []) [.d,.d],.sl (.own none) dY,.sl (.own none) [.d],.d,.d,.d,.d,.d,.d,.d,.sl (.own none) [.d,.d],.d,.sl (.own none) aau],.rd true [.d,.d,.d,.d],.rd false [.d],.tk true Kn],(.one false [.d])⟩
def zJ:aH:=aA []
def zK (n:Nat):dE × kr × Int × y_->Option ((Int) × Int × List Int × List aF × List (List Int) × List Int × Int × Int × Int × Int × Int × Int × Int × List aF × Int × List lU):=aD n zJ zI [bu,dD,[.i .i64],ib] [.i .i64] bu [8] (.mp 0)
def zM:=zK BIG
def LA:TSp:=⟨Lx,[bu,dD,[.i .i64],ib],[.i .i64],bu,Ou.j (.mp 0),zM⟩
theorem aa1:aM PG zJ 57 Lx (zI.ht 26) (.mp 0)=some (zI.wc zJ,[8]):=by kernel_rfl
theorem YI:LA.Ok PG 57:=aN (ak PG) aa1 (by kernel_rfl)
theorem aa2 (n) (a0) (a1) (a2) (a3):zK n (a0,a1,a2,a3) = bnd a0.2.2.2.2.1.length (IntKind.wrap .i64 (a2-(1:Int))) fun n0=> a0.2.2.2.2.1[n0]?.bind fun y1=> some ((2:Int),(a0.1,a0.2.1,a0.2.2.1,a0.2.2.2.1,a0.2.2.2.2.1,a1.1,a1.2.1,a1.2.2.1,a1.2.2.2,a2,IntKind.wrap .i64 (y1+(1:Int)),a3.2.1,a3.2.2.1,a3.2.2.2,a0.2.2.2.2.2.2.2.2.2.2.2.2.2.2)):=by kernel_rfl
def Di:TC:=
 (zS [bM 4 1,bC 6] (zS [bQ 11,gN 12 11,iR 14 0 2 13,af 7 14] (zQ (.join [⟨0,bu,false⟩,⟨7,[.sl [.i .i64,.i .i64]],false⟩] 68719444417 (some [⟨6,[.i .i64],false⟩,⟨0,bu,false⟩]) (zS [bC 8] (.block 0 (.loop [⟨0,bu,false⟩,⟨7,[.sl [.i .i64,.i .i64]],false⟩,⟨8,[.i .i64],false⟩] 68719444417 (zQ (zS [JE 15 8 2] (zC 18 .skip (.exit 0))) (zQ (.block 1 (zQ (zS [di 21 7 2,af 23 8,jV 24 22 23 2 2,fG 26 143 21 25] (zC 26 (zS [tY 27 4 4,zIb 55 28 3 29 29] (zS [iq 6 1] .ret)) .skip)) (zR [di 30 7 2,af 32 8,jV 33 31 32 2 2,fG 35 130 30 34,zIc 35 35 35]))) (zR [eF 19 8 8]))))))) (zS [Bn 36 0 1,ky 40 4 2 4 3,jy 44 39 41,zBg 0 39 0 1 1 0 44 43] (zS [bQ 45,af 49 7,ww 46 45 0 1,aW 50 4 3,Kt 52 163 48 49 51,bH 52 9 52] (zQ (.join [⟨7,[.sl [.i .i64,.i .i64]],false⟩] 36884480948164363392 none (zS [bC 10] (.block 2 (.loop [⟨7,[.sl [.i .i64,.i .i64]],false⟩,⟨10,[.i .i64],false⟩] 36884480948164363392 (zQ (zS [af 53 10,cO 54 9,kw 55 54 53] (zC 56 .skip (.exit 2))) (zQ (.block 3 (zR [af 59 7,cO 60 9,af 61 10,jy 62 60 61,JC 63 9 2 62 2,fG 64 131 59 63,zIc 64 64 64])) (zR [yY 57 10,af 10 58]))))))) (zS [bQ 65,af 66 7,gN 67 65,[o4 1 [0,44,48] (.store 0 [] 2 (.t 68) (.t 66))]] (zQ (zS [cO 69 9,dW 70 69,fV 71 70 0] (zC 71 (zS [tY 72 4 4,zIb 55 73 1 74 74] (zS [iq 6 1] .ret)) .skip)) (zS [tY 75 4 4,aW 77 4 3,zId 9 79 9 54 69 79,zIe 4 79 80 79 80,zIf 57 0 76 78 80 81 0 80 81,af 6 81] .ret)))))))))
def Pb:aJ:=⟨[.mp [.d,.sl (.own none) [.d],.sl (.ro []) [.d,.d],.sl (.own none) dY,.sl (.own none) [.d],.d,.d,.d,.d,.d,.d,.d,.sl (.own none) [.d,.d],.d,.sl (.own none) aau],.rd true [.d,.d,.d,.d],.rd false fJ],(.one false [.d])⟩
def Dj:aH:=aA [(143,wz),(55,O_),(130,Bz),(163,XZ),(131,oN),(57,LA)]
def Dk (n:Nat):dE × kr × (List aF)->Option ((Int) × Int × List Int × List aF × List (List Int) × List Int × Int × Int × Int × Int × Int × Int × Int × List aF × Int × List lU):=aD n Dj Di [bu,dD,[.sl [.i .i64,.i .i64]]] [.i .i64] bu [6] (.mp 0)
def Dl:=Dk BIG
def Pd:TSp:=⟨Pb,[bu,dD,[.sl [.i .i64,.i .i64]]],[.i .i64],bu,Ou.j (.mp 0),Dl⟩
theorem ac5:aM PG Dj 81 Pb (Di.ht 82) (.mp 0)=some (Di.wc Dj,[6]):=by kernel_rfl
theorem aa3:Pd.Ok PG 81:=aN (aa xQ (aa aa0 (aa G8 (aa ag2 (aa uF (aa YI (ak PG))))))) ac5 (by kernel_rfl)
theorem ac6 (n) (a0) (a1) (a2):Dk n (a0,a1,a2) = (aI n (X:=dE × (List aF) × Int) (B:=(dE × (List aF)) ⊕ Zt1) (fun self1 x0=> bif decide (x0.2.2<(a2.length:Int)) then bnd a2.length x0.2.2 fun n2=> a2[n2]?.bind fun y3=> (qE (x0.2.1,y3)).bind fun r4=> bif r4.1 then (vC (x0.1,a1,(3:Int))).bind fun r5=> some (Sum.inr ((1:Int),r5.2)) else bnd a2.length x0.2.2 fun n6=> a2[n6]?.bind fun y7=> (wC (x0.2.1,y7)).bind fun r8=> self1 (x0.1,r8.1,IntKind.wrap .i64 (x0.2.2+(1:Int))) else some (Sum.inl (x0.1,x0.2.1))) (a0,a0.2.2.1,(0:Int)):Option ((dE × (List aF)) ⊕ Zt1)).bind fun y=>match y with | .inl x9=> bnd x9.1.2.1.length a1.2.2.1 fun n10=> x9.1.2.1[n10]?.bind fun y11=> (Lv (x9.1.2.1.set n10 a1.2.2.2,x9.2,a1.2.2.2)).bind fun r12=> (aI n (X:=(List aF) × Int) (B:=(List aF)) (fun self14 x13=> bif decide (x13.2<(r12.1.length:Int)) then bnd r12.1.length x13.2 fun n15=> r12.1[n15]?.bind fun y16=> (lF (x13.1,y16)).bind fun r17=> self14 (r17.1,IntKind.wrap .i64 (x13.2+(1:Int))) else some x13.1) (x9.2,(0:Int)):Option ((List aF))).bind fun x18=> bif decide ((r12.1.length:Int)=(0:Int)) then (vC ((x9.1.1,x9.1.2.1.set n10 a1.2.2.2,x18,x9.1.2.2.2),a1,(1:Int))).bind fun r19=> some ((1:Int),r19.2) else (zM ((x9.1.1,x9.1.2.1.set n10 a1.2.2.2,x18,x9.1.2.2.2),a1,a1.2.2.2,((0:Int),(4:Int),r12.1,(0:Int)))).bind fun r20=> some (r20.1,r20.2) | .inr x9=> some (x9.1,x9.2):=by kernel_rfl
def LB:TC:=
 (zS [bM 4 1] (zS [bQ 6,bQ 7,af 14 2,qy 8 7,yU 9 8,zBr 10 0 14 9,aW 11 4 0,bS 13 4 4,zHB 15 12 13 14,zHC 16 15,Kr 10 10 16 17 10 10 0 17,gN 18 6,rD 0 17 10 0 14 19 17] (zR [bQ 20,zHD 21,gN 22 20,zHs 0 21 0 5 23 21])))
def X0:aJ:=⟨[.mp kN,.rd true [.d,.d,.d,.d],.rd false [.d]],.u⟩
def LC:aH:=aA []
def LD (n:Nat):dE × kr × Int->Option ((Unit) × Int × List Int × List aF × List (List Int) × List Int × Int × Int × Int × Int × Int × Int × Int × List aF × Int × List lU):=aD n LC LB [bu,dD,[.i .i64]] [] bu [] (.mp 0)
def kW:=LD BIG
def BH:TSp:=⟨X0,[bu,dD,[.i .i64]],[],bu,Ou.j (.mp 0),kW⟩
theorem ajG:aM PG LC 55 X0 (LB.ht 24) (.mp 0)=some (LB.wc LC,[]):=by kernel_rfl
theorem Hy:BH.Ok PG 55:=aN (ak PG) ajG (by kernel_rfl)
theorem ajH (n) (a0) (a1) (a2):LD n (a0,a1,a2) = bif decide (a0.2.2.2.2.2.2.2.2.2.2.2.2.2.2.length+([(a1.1,a1.1,a1.2.1,a1.2.2.1,a1.2.2.2,a2)]).length<=4294967296) then some ((),(a0.1,a0.2.1,a0.2.2.1,a0.2.2.2.1,a0.2.2.2.2.1,(0:Int),(0:Int),(0:Int),(0:Int),(0:Int),(0:Int),(0:Int),[],(0:Int),a0.2.2.2.2.2.2.2.2.2.2.2.2.2.2++([(a1.1,a1.1,a1.2.1,a1.2.2.1,a1.2.2.2,a2)]))) else none:=by kernel_rfl
def VL:TC:=
 (zS [bM 3 0,bM 5 2,rC 6 1000000007,bC 7] (zS [tX 12 3 15 51,rC 8 1000000009,ek 8 13 8 13] (zQ (.seq (.join [⟨44,[.b],false⟩] 35184372072448 none (zR [bS 14 3 15,dH 15 52 14,jg 16 15,gJ 18 3 3 0 3,Kw 20 5 4 3 80 19 3,nO 22 21 3 17,wu 25 3 15 10,EZ 39 25 26 26 10,nO 27 26 10 24,dw 30 1 15,qz 31 15,rE 32 31 15,Bi 33 3 9 32 15,xy 34 30 33 15,Bl 29 34 35,xA 37 22 5 0,qz 39 22,rE 40 39 22,rE 41 40 22,Bi 42 3 10 41 22,xy 43 38 42 22,mK 36 43 44])) (zC 44 (zS [kU 45 8 15 6 6 8,bC 7] .ret) .skip)) (zS [bO 46,nK 47 3 5 46 9,zHw 9 1000000010,cZ 9 9 47] (zS [mO 48 8 4,af 50 1,oh 51 50,aW 52 5 0,jy 54 49 51,zBg 8 49 8 4 1 0 54 53] (zS [af 57 1,mO 55 8 3,oh 58 57,v_ 59,aW 60 5 3,wh 59 61 62 59,jy 63 56 58,[o4 2 [8,62,48,54,63,56,55] (.store 8 [(3,1)] 0 (.t 63) (.t 62))]] (zQ (.seq (.join [⟨73,[.b],false⟩] 18871019187404871303168 none (zR [yZ 64,iR 66 9 1 65,fV 67 66 4,af 68 67,jA 69 4,ol 70 69 4,l6 71 9 6 70 4,zIg 72 71 3 4,lC 68 72 73])) (zC 73 (zS [bO 74,nK 75 9 0 74 4,aW 76 5 2,[⟨false,[],[3000008002],.call 2 81 [.t 8,.t 75,.t 77] (.mp 0),[78,8,8],(some 78),none⟩],af 10 78] (zS [gI 79 8 15,dH 80 51 79,af 81 10,oq 6 80 6 80] .ret)) .skip)) (zS [iq 11 1] (zQ (.join [⟨11,[.i .i64],false⟩] 2471044375292302033099425792 none (zQ (.join [⟨90,[.b],false⟩] 2471044375292302033099423744 none (zR [yZ 82,iR 84 9 1 83,zDf 85 84 4,ow 86 85 4 5 1 4,zDz 89 88 4,lC 86 89 90])) (zC 90 (zR [iq 11 2]) .skip))) (zS [bO 91,nK 92 9 0 91 4,af 93 11,zIh 55 8 92 93 94 8 94] (zS [kU 95 8 15 6 6 8,iq 7 1] .ret)))))))))))
def aeZ:aJ:=⟨[.rd true kN,.rd false [.d],.rd true JA],(.tup [(true,15),(false,1)] Ct0)⟩
def VM:aH:=aA [(51,Hr),(52,Lr),(80,CZ),(39,E8),(81,Pd),(55,BH)]
def VN (n:Nat):dE × Int × ko->Option (Zt2 × Unit):=aD n VM VL [bu,[.i .i64],eX] Xu [] [6,7] .no
def uG:=VN BIG
def VO:TSp:=⟨aeZ,[bu,[.i .i64],eX],Xu,[],Ou.j .no,uG⟩
theorem anT:aM PG VM 19 aeZ (VL.ht 96) .no=some (VL.wc VM,[6,7]):=by kernel_rfl
theorem aa4:VO.Ok PG 19:=aN (aa O7 (aa Ua (aa K3 (aa Gg (aa aa3 (aa Hy (ak PG))))))) anT (by kernel_rfl)
theorem anU (n) (a0) (a1) (a2):VN n (a0,a1,a2) = (sw a0).bind fun r0=> ((wE a0).bind fun r1=> bif !r1.1 then some true else (vw (a0.1,a2)).bind fun r2=> bif !r2.1 then some true else (qB a0).bind fun r3=> bif !r3.1 then some true else bif !decide (a1=a0.2.2.2.2.2.2.2.2.2.1) then some true else some (!decide (a2.1=a0.2.2.2.2.2.2.2.2.2.2.1)):Option (Bool)).bind fun x4=> bif x4 then some ((r0.1.1,r0.1.2.1,r0.1.2.2.1,r0.1.2.2.2.1,r0.1.2.2.2.2.1,r0.1.2.2.2.2.2.1,r0.1.2.2.2.2.2.2.1,r0.1.2.2.2.2.2.2.2.1,r0.1.2.2.2.2.2.2.2.2.1,r0.1.2.2.2.2.2.2.2.2.2.1,r0.1.2.2.2.2.2.2.2.2.2.2.1,r0.1.2.2.2.2.2.2.2.2.2.2.2.1,r0.1.2.2.2.2.2.2.2.2.2.2.2.2.1,r0.1.2.2.2.2.2.2.2.2.2.2.2.2.2.1,r0.1.2.2.2.2.2.2.2.2.2.2.2.2.2.2,(0:Int)),()) else bnd r0.1.2.2.2.2.1.length (IntKind.wrap .i64 (a1-(1:Int))) fun n5=> r0.1.2.2.2.2.1[n5]?.bind fun y6=> bif decide (0+a2.2.2.2.length<=4294967296) then bnd r0.1.2.2.2.1.length (IntKind.wrap .i64 (a1-(1:Int))) fun n7=> r0.1.2.2.2.1[n7]?.bind fun y8=> (bif decide (a0.2.2.2.2.2.2.1=(4:Int)) then some (decide (a0.2.2.2.2.2.2.2.2.2.2.2.1=(3:Int))) else some false:Option (Bool)).bind fun x9=> bif x9 then (Dl ((r0.1.1,r0.1.2.1,r0.1.2.2.1,r0.1.2.2.2.1.set n7 ([]++a2.2.2.2),r0.1.2.2.2.2.1.set n5 a2.1,r0.1.2.2.2.2.2),(a0.2.2.2.2.2.1,a0.2.2.2.2.2.2.1,a0.2.2.2.2.2.2.2.1,a0.2.2.2.2.2.2.2.2.1),a2.2.2.1)).bind fun r10=> (sw r10.2).bind fun r11=> some ((r11.1.1,r11.1.2.1,r11.1.2.2.1,r11.1.2.2.2.1,r11.1.2.2.2.2.1,r11.1.2.2.2.2.2.1,r11.1.2.2.2.2.2.2.1,r11.1.2.2.2.2.2.2.2.1,r11.1.2.2.2.2.2.2.2.2.1,r11.1.2.2.2.2.2.2.2.2.2.1,r11.1.2.2.2.2.2.2.2.2.2.2.1,r11.1.2.2.2.2.2.2.2.2.2.2.2.1,r11.1.2.2.2.2.2.2.2.2.2.2.2.2.1,r11.1.2.2.2.2.2.2.2.2.2.2.2.2.2.1,r11.1.2.2.2.2.2.2.2.2.2.2.2.2.2.2,r10.1),()) else ((bif !decide (a0.2.2.2.2.2.2.1=(4:Int)) then some !a2.2.1 else some false:Option (Bool)).bind fun x12=> bif x12 then some (2:Int) else some (1:Int):Option (Int)).bind fun x13=> (kW ((r0.1.1,r0.1.2.1,r0.1.2.2.1,r0.1.2.2.2.1.set n7 ([]++a2.2.2.2),r0.1.2.2.2.2.1.set n5 a2.1,r0.1.2.2.2.2.2),(a0.2.2.2.2.2.1,a0.2.2.2.2.2.2.1,a0.2.2.2.2.2.2.2.1,a0.2.2.2.2.2.2.2.2.1),x13)).bind fun r14=> some ((r14.2.1,r14.2.2.1,r14.2.2.2.1,r14.2.2.2.2.1,r14.2.2.2.2.2.1,r14.2.2.2.2.2.2.1,r14.2.2.2.2.2.2.2.1,r14.2.2.2.2.2.2.2.2.1,r14.2.2.2.2.2.2.2.2.2.1,r14.2.2.2.2.2.2.2.2.2.2.1,r14.2.2.2.2.2.2.2.2.2.2.2.1,r14.2.2.2.2.2.2.2.2.2.2.2.2.1,r14.2.2.2.2.2.2.2.2.2.2.2.2.2.1,r14.2.2.2.2.2.2.2.2.2.2.2.2.2.2.1,r14.2.2.2.2.2.2.2.2.2.2.2.2.2.2.2,(1:Int)),()) else none:=by kernel_rfl
def wS:TC:=
 (zS [bC 4] (zS [af 5 1,bQ 6,af 7 1,dW 8 7,Td 112 8 9 9,mM 10 5 9 5 1,af 4 11] .ret))
def JI:aJ:=⟨[.mp [.sl (.ro []) [.d],.d,.d],.rd false dY],(.one false [.d])⟩
def wT:aH:=aA [(112,oz)]
def wU (n:Nat):(List Int × Int × Int) × List (Int)->Option ((Int) × List Int × Int × Int):=aD n wT wS [fO,[.sl [.i .i64]]] [.i .i64] fO [4] (.mp 0)
def iO:=wU BIG
def JJ:TSp:=⟨JI,[fO,[.sl [.i .i64]]],[.i .i64],fO,Ou.j (.mp 0),iO⟩
theorem YJ:aM PG wT 125 JI (wS.ht 12) (.mp 0)=some (wS.wc wT,[4]):=by kernel_rfl
theorem VP:JJ.Ok PG 125:=aN (aa rF (ak PG)) YJ (by kernel_rfl)
theorem YK (n) (a0) (a1):wU n (a0,a1) = (fF (a0,(a1.length:Int))).bind fun r0=> bnd a1.length r0.1 fun n1=> a1[n1]?.bind fun y2=> some (y2,r0.2):=by kernel_rfl
def LF:TC:=
 (zS [zIj 8 1000000009] (zS [af 10 3,bQ 11,[⟨false,[],[],.det 10 (.sli [.i .i64] [kO 1,kO 1,kO 1,kO 1,kO 2,kO 2,kO 3,kO 3,kO 4]),[12,1000000001,1000000002,1000000003,1000000004,1000000005,1000000006,1000000007,1000000008,1000000009],(some 12),none⟩],Td 125 12 13 13,bQ 14,af 15 1,Td 112 15 16 16,bQ 17,af 18 1,Td 112 18 19 19,[o1 20 (.build dD [(0,.t 10),(1,.t 13),(2,.t 16),(3,.t 19)])],zIj 9 1000000010,cZ 9 9 20] (zQ (.join [⟨0,fO,false⟩,⟨9,dD,false⟩] 534774273 none (zS [aW 21 9 1,fV 23 22 4] (zC 23 (zR [bQ 24,af 25 2,Td 112 25 26 26,zAe 27 1 26,bO 28,Bf 9 9 3 28 27]) .skip))) (zQ (.join [⟨0,fO,false⟩,⟨9,dD,false⟩] 2251799276814849 none (zS [bQ 29,zAB 30 30 30] (.block 0 (zS [fV 32 30 0,af 31 32] (zC 31 (zR [bQ 33,af 34 1,[⟨false,[],[],.det 4 (.sli [.i .i64] [kO (-1),.t 34,kO 11,kO 12]),[35,1000000001,1000000003,1000000004],(some 35),none⟩],Td 125 35 36 36,bO 37,Bf 9 9 2 37 36]) (zS [fV 39 30 1,af 38 39] (zC 38 (zR [bQ 40,af 41 1,[⟨false,[],[],.det 4 (.sli [.i .i64] [kO (-1),kO 0,.t 41,kO 12]),[42,1000000001,1000000002,1000000004],(some 42),none⟩],Td 125 42 43 43,bO 44,Bf 9 9 3 44 43]) (zS [fV 46 30 2,af 45 46] (zC 45 (zR [bQ 47,[⟨false,[],[],.det 3 (.sli [.i .i64] [kO 0,kO 5]),[48,1000000001,1000000002],(some 48),none⟩],Td 125 48 49 49,bO 50,Bf 9 9 1 50 49]) .skip))))))))) (zS [bS 51 9 4,cZ 8 8 51] .ret)))))
def X3:aJ:=⟨[.mp [.sl (.ro []) [.d],.d,.d],.rd false [.d],.rd false [.d],.rd false [.d]],(.one true [.d,.d,.d,.d])⟩
def LG:aH:=aA [(125,JJ),(112,oz)]
def LH (n:Nat):(List Int × Int × Int) × Int × Int × Int->Option (kr × List Int × Int × Int):=aD n LG LF [fO,[.i .i64],[.i .i64],[.i .i64]] dD fO [8] (.mp 0)
def BI:=LH BIG
def LJ:TSp:=⟨X3,[fO,[.i .i64],[.i .i64],[.i .i64]],dD,fO,Ou.j (.mp 0),BI⟩
theorem ajI:aM PG LG 41 X3 (LF.ht 52) (.mp 0)=some (LF.wc LG,[8]):=by kernel_rfl
theorem Ub:LJ.Ok PG 41:=aN (aa VP (aa rF (ak PG))) ajI (by kernel_rfl)
theorem ajJ (n) (a0) (a1) (a2) (a3):LH n (a0,a1,a2,a3) = (iO (a0,[(1:Int),(1:Int),(1:Int),(1:Int),(2:Int),(2:Int),(3:Int),(3:Int),(4:Int)])).bind fun r0=> (fF (r0.2,a1)).bind fun r1=> (fF (r1.2,a1)).bind fun r2=> (bif decide (r0.1=(4:Int)) then (fF (r2.2,a2)).bind fun r3=> some (r3.2,(a3,r0.1,r1.1,IntKind.wrap .i64 ((1:Int)+r3.1))) else some (r2.2,(a3,r0.1,r1.1,r2.1)):Option ((List Int × Int × Int) × kr)).bind fun x4=> ((fF (x4.1,(30:Int))).bind fun r5=> bif decide (r5.1=(0:Int)) then (iO (r5.2,[(-1:Int),a1,(11:Int),(12:Int)])).bind fun r6=> some (r6.2,(x4.2.1,x4.2.2.1,r6.1,x4.2.2.2.2)) else bif decide (r5.1=(1:Int)) then (iO (r5.2,[(-1:Int),(0:Int),a1,(12:Int)])).bind fun r7=> some (r7.2,(x4.2.1,x4.2.2.1,x4.2.2.2.1,r7.1)) else bif decide (r5.1=(2:Int)) then (iO (r5.2,[(0:Int),(5:Int)])).bind fun r8=> some (r8.2,(x4.2.1,r8.1,x4.2.2.2)) else some (r5.2,x4.2):Option ((List Int × Int × Int) × kr)).bind fun x9=> some (x9.2,x9.1):=by kernel_rfl
def uH:TC:=
 (zS [tT 6,a_ 7] (zS [S9 12,bH 12 8 12] (zQ (.seq (.join [⟨25,[.b],false⟩] 67100672 none (zR [af 13 0,lD 14 42 13 12,jg 15 14,dw 17 1 3,OG 18 17 3,Xz 19 18 3 3,Bl 16 19 20,dw 22 2 8,OG 23 22 8,Xz 24 23 1000 8,mK 21 24 25])) (zC 25 (zS [v_ 26,bH 26 6 26,a_ 7] .ret) .skip)) (zQ (.join [⟨8,[.sl [.i .i64,.i .i64]],false⟩] 302231454903657159460800 (some [⟨6,[.sl [.i .i64]],false⟩,⟨7,[.b],false⟩]) (zS [bC 9] (.block 0 (.loop [⟨8,[.sl [.i .i64,.i .i64]],false⟩,⟨9,[.i .i64],false⟩] 302231454903657159460800 (zQ (zS [JE 27 9 1] (zC 30 .skip (.exit 0))) (zQ (.join [⟨8,[.sl [.i .i64,.i .i64]],false⟩] 302231454903648703743424 (some [⟨6,[.sl [.i .i64]],false⟩,⟨7,[.b],false⟩]) (.block 1 (zQ (zS [OJ 33 1 9 1,dW 37 36,af 38 0,xw 39 37 38] (zC 39 (zS [v_ 40,bH 40 6 40,a_ 7] .ret) .skip)) (zS [bC 10] (.block 2 (.loop [⟨8,[.sl [.i .i64,.i .i64]],false⟩,⟨10,[.i .i64],false⟩] 302231454901458270422464 (zQ (zS [OL 41 10 0] (zC 43 .skip (.exit 2))) (zQ (.join [⟨8,[.sl [.i .i64,.i .i64]],false⟩] 302231454833288549499328 (some [⟨6,[.sl [.i .i64]],false⟩,⟨7,[.b],false⟩]) (.block 3 (zQ (zS [OJ 46 1 9 1,af 50 10,kv 51 49 50 1,af 53 10,OH 54 42 52 53,gX 55 54] (zC 55 (zS [v_ 56,bH 56 6 56,a_ 7] .ret) .skip)) (zS [OJ 57 1 9 1,af 61 10,kv 62 60 61 1,af 64 10,d_ 65 63 64] (zC 65 (zR [bH 8 66 8,OJ 67 1 9 1,af 71 10,kv 72 70 71 1,af 74 10,JB 75 73 74,E5 76 75 66 66 8]) .skip))))) (zR [yY 44 10,af 10 45]))))))))) (zR [eF 31 9 9]))))))) (zQ (.join [⟨8,[.sl [.i .i64,.i .i64]],false⟩] 633824997882659797091057928640 (some [⟨6,[.sl [.i .i64]],false⟩,⟨7,[.b],false⟩]) (zS [bC 11] (.block 4 (.loop [⟨8,[.sl [.i .i64,.i .i64]],false⟩,⟨11,[.i .i64],false⟩] 633824997882659797091057928640 (zQ (zS [JE 78 11 2] (zC 81 .skip (.exit 4))) (zQ (.block 5 (zQ (zS [di 84 0 2,af 86 11,jV 87 85 86 2 2,fG 89 128 84 88,gX 90 89] (zC 90 (zS [v_ 91,bH 91 6 91,a_ 7] .ret) .skip)) (zR [bH 8 92 8,OM 93 2 11 2 2,E5 97 96 92 92 8]))) (zR [yY 82 11,af 11 83]))))))) (zS [af 99 0,bH 8 100 8,fG 101 142 99 100,bH 101 6 101,gu 7] .ret))))))
def Fa:aJ:=⟨[.rd false [.d],.rd false [.sl (.own none) dY],.rd false fJ],(.tup [(false,1),(false,1)] agj)⟩
def uI:aH:=aA [(42,dz),(128,wy),(142,rG)]
def uJ (n:Nat):Int × List (List Int) × (List aF)->Option ((List Int × Bool) × Unit):=aD n uI uH [[.i .i64],[.sl [.sl [.i .i64]]],[.sl [.i .i64,.i .i64]]] [.sl [.i .i64],.b] [] [6,7] .no
def uK:=uJ BIG
def Fb:TSp:=⟨Fa,[[.i .i64],[.sl [.sl [.i .i64]]],[.sl [.i .i64,.i .i64]]],[.sl [.i .i64],.b],[],Ou.j .no,uK⟩
theorem VQ:aM PG uI 56 Fa (uH.ht 102) .no=some (uH.wc uI,[6,7]):=by kernel_rfl
theorem Uc:Fb.Ok PG 56:=aN (aa cB (aa xO (aa wO (ak PG)))) VQ (by kernel_rfl)
theorem VR (n) (a0) (a1) (a2):uJ n (a0,a1,a2) =
 ((bg (a0,(1:Int),(12:Int))).bind fun r0=>
  bif !r0.1 then
   some true
  else bif decide ((3:Int)<(a1.length:Int)) then
   some true
  else some (decide ((1000:Int)<(a2.length:Int))):Option (Bool)).bind fun x1=>
 bif x1 then
  some (([],false),())
 else (aI n (X:=(List aF) × Int) (B:=((List aF)) ⊕ ((List Int) × Bool)) (fun self3 x2=>
  bif decide (x2.2<(a1.length:Int)) then
   (bnd a1.length x2.2 fun n4=>
    a1[n4]?.bind fun y5=>
    bif !decide ((y5.length:Int)=a0) then
     some (Sum.inr ([],false))
    else aI n (X:=(List aF) × Int) (B:=((List aF)) ⊕ ((List Int) × Bool)) (fun self7 x6=>
     bif decide (x6.2<a0) then
      (bnd a1.length x2.2 fun n8=>
       a1[n8]?.bind fun y9=>
       bnd y9.length x6.2 fun n10=>
       y9[n10]?.bind fun y11=>
       (bg (y11,(0:Int),x6.2)).bind fun r12=>
       bif !r12.1 then
        some (Sum.inr ([],false))
       else bnd a1.length x2.2 fun n13=>
       a1[n13]?.bind fun y14=>
       bnd y14.length x6.2 fun n15=>
       y14[n15]?.bind fun y16=>
       bif decide (y16<x6.2) then
        bnd a1.length x2.2 fun n17=>
        a1[n17]?.bind fun y18=>
        bnd y18.length x6.2 fun n19=>
        y18[n19]?.bind fun y20=>
        bif decide (x6.1.length+([(y20,x6.2)]).length<=4294967296) then
         some (Sum.inl (x6.1++([(y20,x6.2)])))
        else none
       else some (Sum.inl x6.1):Option (((List aF)) ⊕ ((List Int) × Bool))).bind fun y=>match y with
      | .inl x21=>
       self7 (x21,IntKind.wrap .i64 (x6.2+(1:Int)))
      | .inr x21=>
       some (Sum.inr (x21.1,x21.2))
     else some (Sum.inl x6.1)) (x2.1,(0:Int)):Option (((List aF)) ⊕ ((List Int) × Bool))).bind fun y=>match y with
   | .inl x22=>
    self3 (x22,IntKind.wrap .i64 (x2.2+(1:Int)))
   | .inr x22=>
    some (Sum.inr (x22.1,x22.2))
  else some (Sum.inl x2.1)) ([],(0:Int)):Option (((List aF)) ⊕ ((List Int) × Bool))).bind fun y=>match y with
 | .inl x23=>
  (aI n (X:=(List aF) × Int) (B:=((List aF)) ⊕ ((List Int) × Bool)) (fun self25 x24=>
   bif decide (x24.2<(a2.length:Int)) then
    bnd a2.length x24.2 fun n26=>
    a2[n26]?.bind fun y27=>
    (qC (a0,y27)).bind fun r28=>
    bif !r28.1 then
     some (Sum.inr ([],false))
    else bnd a2.length x24.2 fun n29=>
    a2[n29]?.bind fun y30=>
    bif decide (x24.1.length+[y30].length<=4294967296) then
     self25 (x24.1++[y30],IntKind.wrap .i64 (x24.2+(1:Int)))
    else none
   else some (Sum.inl x24.1)) (x23,(0:Int)):Option (((List aF)) ⊕ ((List Int) × Bool))).bind fun y=>match y with
  | .inl x31=>
   (mP (a0,x31)).bind fun r32=>
   some ((r32.1,true),())
  | .inr x31=>
   some (x31,())
 | .inr x23=>
  some (x23,()):=by kernel_rfl
def Hz:TC:=
 (zS [bM 5 1,[o5 (.a (.t 3)) 7 3],bC 8] (zS [bQ 9,ww 10 9 0 4,af 13 2,oh 14 13,Bp 15 12 14 0 4 1,Be 17 16,bO 18,Bf 7 7 0 18 17] (zS [tY 19 5 4,af 21 2,gI 22 7 4,zHE,gN 24 19,zIa 0 23 12 15 0 5 25 23] (zS [iq 8 2] .ret))))
def Ud:aJ:=⟨[.mp kN,.rd true [.d,.d,.d,.d],.rd false [.d],.tk true Kn],(.one false [.d])⟩
def HV:aH:=aA []
def HY (n:Nat):dE × kr × Int × y_->Option ((Int) × Int × List Int × List aF × List (List Int) × List Int × Int × Int × Int × Int × Int × Int × Int × List aF × Int × List lU):=aD n HV Hz [bu,dD,[.i .i64],ib] [.i .i64] bu [8] (.mp 0)
def xY:=HY BIG
def HZ:TSp:=⟨Ud,[bu,dD,[.i .i64],ib],[.i .i64],bu,Ou.j (.mp 0),xY⟩
theorem ag3:aM PG HV 57 Ud (Hz.ht 26) (.mp 0)=some (Hz.wc HV,[8]):=by kernel_rfl
theorem Pe:HZ.Ok PG 57:=aN (ak PG) ag3 (by kernel_rfl)
theorem ag4 (n) (a0) (a1) (a2) (a3):HY n (a0,a1,a2,a3) = bnd a0.2.2.2.2.1.length (IntKind.wrap .i64 (a2-(1:Int))) fun n0=> a0.2.2.2.2.1[n0]?.bind fun y1=> some ((2:Int),(a0.1,a0.2.1,a0.2.2.1,a0.2.2.2.1,a0.2.2.2.2.1,a1.1,a1.2.1,a1.2.2.1,a1.2.2.2,a2,IntKind.wrap .i64 (y1+(1:Int)),a3.2.1,a3.2.2.1,a3.2.2.2,a0.2.2.2.2.2.2.2.2.2.2.2.2.2.2)):=by kernel_rfl
def H5:TC:=
 (zS [bM 1 0,l8 2 1000000003] (zQ (zS [eZ 3 1 2 3,eZ 5 1 3 5,d_ 7 4 6] (zC 7 (zS [eZ 8 1 2 8,aW 10 1 3,JB 12 9 11,cZ 2 2 12] .ret) .skip)) (zS [ky 13 1 3 1 2,JB 17 14 16,cZ 2 2 17] .ret)))
def Ue:aJ:=⟨[.rd true [.d,.d,.d,.d]],(.one true [.d,.d])⟩
def H6:aH:=aA []
def H7 (n:Nat):kr->Option (aF × Unit):=aD n H6 H5 [dD] [.i .i64,.i .i64] [] [2] .no
def sN:=H7 BIG
def H8:TSp:=⟨Ue,[dD],[.i .i64,.i .i64],[],Ou.j .no,sN⟩
theorem ag5:aM PG H6 45 Ue (H5.ht 18) .no=some (H5.wc H6,[2]):=by kernel_rfl
theorem Pf:H8.Ok PG 45:=aN (ak PG) ag5 (by kernel_rfl)
theorem ag6 (n) (a0):H7 n a0 = bif decide (a0.2.2.1<a0.2.2.2) then some (a0.2.2,()) else some ((a0.2.2.2,a0.2.2.1),()):=by kernel_rfl
def zN:TC:=
 (zS [bM 3 1,bC 4] (zS [bS 8 3 4,dH 9 45 8,l8 5 1000000006,cZ 5 5 9] (zS [iq 6 1] (zQ (.join [⟨6,[.i .i64],false⟩] 7232 none (zS [aW 10 3 1,fV 12 11 2] (zC 12 (zR [iq 6 2]) .skip))) (zQ (zS [bQ 13,bQ 21,ww 14 13 0 1,aW 17 5 0,Bp 19 16 18 0 1 1,ww 22 21 0 1,aW 25 5 1,Bp 27 24 26 0 1 1,kP 29 20 28] (zC 29 (zS [bQ 30,bQ 32,af 40 6,bS 31 3 4,ww 33 32 0 1,aW 36 5 0,Bp 38 35 37 0 1 1,bS 41 5 2,Xx 42 41,[o5 (.build ib [(1,.t 40),(2,.t 42)]) 43 42,⟨false,[],[],.call 3 57 [.t 0,.t 31,.t 39,.t 43] (.mp 0),[44,0,43,16,19,24,27,38,35],(some 44),none⟩],af 4 44] .ret) .skip)) (zS [Bn 45 0 2,nN 49 5 2 143 48,af 7 50] (zQ (zS [qA 51 7 3 1,fV 54 53 1,[o1 55 (.data (.beq false) [.t 51,.t 54])]] (zC 55 (zS [tY 56 3 4,[⟨false,[],[],.call 2 55 [.t 0,.t 57,kO 2] (.mp 0),[58,0,16,19,24,27,48],(some 58),none⟩]] (zS [iq 4 1] .ret)) .skip)) (zQ (.join [⟨0,bu,false⟩] 302230878724380118548481 none (zS [af 59 7] (zC 59 (zR [bQ 60,Bn 61 0 2,nN 65 5 2 131 64,gN 67 60,zIk 66 64 68 66]) (zR [bQ 69,Bn 70 0 2,nN 74 5 2 130 73,gN 76 69,zIk 75 73 77 75])))) (zS [tY 78 3 4,zIb 55 79 1 80 80] (zS [iq 4 1] .ret))))))))))
def LK:aJ:=⟨[.mp kN,.rd true [.d,.d,.d,.d]],(.one false [.d])⟩
def zO:aH:=aA [(45,H8),(57,HZ),(143,wz),(55,BH),(131,oN),(130,Bz)]
def zP (n:Nat):dE × kr->Option ((Int) × Int × List Int × List aF × List (List Int) × List Int × Int × Int × Int × Int × Int × Int × Int × List aF × Int × List lU):=aD n zO zN [bu,dD] [.i .i64] bu [4] (.mp 0)
def zU:=zP BIG
def LM:TSp:=⟨LK,[bu,dD],[.i .i64],bu,Ou.j (.mp 0),zU⟩
theorem aa5:aM PG zO 58 LK (zN.ht 81) (.mp 0)=some (zN.wc zO,[4]):=by kernel_rfl
theorem YL:LM.Ok PG 58:=aN (aa Pf (aa Pe (aa xQ (aa Hy (aa uF (aa G8 (ak PG))))))) aa5 (by kernel_rfl)
theorem aa6 (n) (a0) (a1):zP n (a0,a1) = (sN a1).bind fun r0=> (bif decide (a1.2.1=(2:Int)) then some (2:Int) else some (1:Int):Option (Int)).bind fun x1=> bnd a0.2.1.length r0.1.1 fun n2=> a0.2.1[n2]?.bind fun y3=> bnd a0.2.1.length r0.1.2 fun n4=> a0.2.1[n4]?.bind fun y5=> bif decide (y3=y5) then bnd a0.2.1.length r0.1.1 fun n6=> a0.2.1[n6]?.bind fun y7=> (xY (a0,a1,y7,((0:Int),x1,[r0.1],(0:Int)))).bind fun r8=> some (r8.1,r8.2) else (qE (a0.2.2.1,r0.1)).bind fun r9=> bif (r9.1 == (decide (a1.2.1=(1:Int)))) then (kW (a0,a1,(2:Int))).bind fun r10=> some ((1:Int),r10.2) else (bif r9.1 then (lF (a0.2.2.1,r0.1)).bind fun r11=> some (a0.1,a0.2.1,r11.1,a0.2.2.2) else (wC (a0.2.2.1,r0.1)).bind fun r12=> some (a0.1,a0.2.1,r12.1,a0.2.2.2):Option (dE)).bind fun x13=> (kW (x13,a1,(1:Int))).bind fun r14=> some ((1:Int),r14.2):=by kernel_rfl
def VS:TC:=
 (zS [bM 2 0,bM 3 1,rC 4 1000000005,bC 5] (zS [tX 12 2 15 51,rC 6 1000000007,ek 6 13 6 13] (zQ (.seq (.join [⟨39,[.b],false⟩] 1099511611392 none (zR [bS 14 2 15,dH 15 52 14,jg 16 15,gJ 18 3 3 0 3,Kq 42 19 100000 20 20 3,nO 21 20 3 17,wu 24 2 15 9,gJ 25 9 3 0 9,yX 53 24 26 27 27 9,zIm 28 27 0 9,Bl 23 28 29,wu 31 2 15 16,EZ 39 31 32 32 16,Bl 30 32 33,Tf 35 20 2 14,zIm 38 37 80 20,mK 34 38 39])) (zC 39 (zS [kU 40 6 15 4 4 6,bC 5] .ret) .skip)) (zQ (zS [bS 41 2 15,nN 42 3 4 54 41,gX 44 43] (zC 44 (zS [bS 45 3 4,zIn 55 6 45 3 46 6 46] (zS [kU 47 6 15 4 4 6,iq 5 1] .ret)) .skip)) (zQ (zS [aW 48 3 1] (.block 0 (zS [fV 51 49 3,af 50 51] (zC 50 (zS [ky 53 2 0 2 3,aW 57 2 2,Kt 59 56 54 56 58,Bo 59 52 59 1 1,bH 60 7 60,af 8 61] (zS [iq 9 2] (zQ (.join [⟨9,[.i .i64],false⟩] 9440121279720863040000 none (zS [cO 62 7,cO 67 7,aW 63 3 2,mM 65 62 64 7 1,aW 68 3 3,mM 70 67 69 7 1,kP 72 66 71] (zC 72 (zR [iq 9 1]) .skip))) (zS [bS 73 3 4,af 74 9,zIh 55 6 73 74 75 6 75] (zS [kU 76 6 15 4 4 6,iq 5 1] .ret))))) (zS [fV 78 49 4,af 77 78] (zC 77 (zQ (zS [ky 79 2 1 3 2,kv 83 80 82 1,aW 85 3 3,kP 87 84 86] (zC 87 (zS [bS 88 3 4,zIn 55 6 88 2 89 6 89] (zS [kU 90 6 15 4 4 6,iq 5 1] .ret)) .skip)) (zS [JD 1000000002 3 4 91 91,xz 1000000002 92 92 2 1,xz 1000000002 94 94 3 2,zHa 1000000002 93 95 96 96,zHc 1000000002 93 0 1 96 97 97,aW 98 3 2,zIo 99 100,zIf 57 6 91 97 100 101 6 100 101,af 10 101] (zS [gI 102 6 15,af 103 10,Bg 102 4 102 4 102 102 6,af 5 103] .ret))) .skip)))))) (zS [bS 104 3 4,zIp 58 6 104 105 6 105,af 11 105] (zS [gI 106 6 15,af 107 11,Bg 106 4 106 4 106 106 6,af 5 107] .ret)))))))
def ae0:aJ:=⟨[.rd true kN,.rd true [.d,.d,.d,.d]],(.tup [(true,15),(false,1)] Ct0)⟩
def VT:aH:=aA [(51,Hr),(52,Lr),(42,dz),(53,xX),(39,E8),(54,Dc),(55,BH),(56,Fb),(57,HZ),(58,LM)]
def VU (n:Nat):dE × kr->Option (Zt2 × Unit):=aD n VT VS [bu,dD] Xu [] [4,5] .no
def Fe:=VU BIG
def VV:TSp:=⟨ae0,[bu,dD],Xu,[],Ou.j .no,Fe⟩
theorem anV:aM PG VT 11 ae0 (VS.ht 108) .no=some (VS.wc VT,[4,5]):=by kernel_rfl
theorem aa7:VV.Ok PG 11:=aN (aa O7 (aa Ua (aa cB (aa C9 (aa Gg (aa Lh (aa Hy (aa Uc (aa Pe (aa YL (ak PG))))))))))) anV (by kernel_rfl)
theorem anW (n) (a0) (a1):VU n (a0,a1) = (sw a0).bind fun r0=> ((wE a0).bind fun r1=> bif !r1.1 then some true else (bg (a1.1,(1:Int),(100000:Int))).bind fun r2=> bif !r2.1 then some true else (sD (a0,a1.1)).bind fun r3=> bif decide ((0:Int)<=r3.1) then some true else (qB a0).bind fun r4=> bif r4.1 then some true else some (decide ((80:Int)<=(a0.2.2.2.2.2.2.2.2.2.2.2.2.2.2.length:Int))):Option (Bool)).bind fun x5=> bif x5 then some ((r0.1.1,r0.1.2.1,r0.1.2.2.1,r0.1.2.2.2.1,r0.1.2.2.2.2.1,r0.1.2.2.2.2.2.1,r0.1.2.2.2.2.2.2.1,r0.1.2.2.2.2.2.2.2.1,r0.1.2.2.2.2.2.2.2.2.1,r0.1.2.2.2.2.2.2.2.2.2.1,r0.1.2.2.2.2.2.2.2.2.2.2.1,r0.1.2.2.2.2.2.2.2.2.2.2.2.1,r0.1.2.2.2.2.2.2.2.2.2.2.2.2.1,r0.1.2.2.2.2.2.2.2.2.2.2.2.2.2.1,r0.1.2.2.2.2.2.2.2.2.2.2.2.2.2.2,(0:Int)),()) else (vz (a0,a1)).bind fun r6=> bif !r6.1 then (kW (r0.1,a1,(3:Int))).bind fun r7=> some ((r7.2.1,r7.2.2.1,r7.2.2.2.1,r7.2.2.2.2.1,r7.2.2.2.2.2.1,r7.2.2.2.2.2.2.1,r7.2.2.2.2.2.2.2.1,r7.2.2.2.2.2.2.2.2.1,r7.2.2.2.2.2.2.2.2.2.1,r7.2.2.2.2.2.2.2.2.2.2.1,r7.2.2.2.2.2.2.2.2.2.2.2.1,r7.2.2.2.2.2.2.2.2.2.2.2.2.1,r7.2.2.2.2.2.2.2.2.2.2.2.2.2.1,r7.2.2.2.2.2.2.2.2.2.2.2.2.2.2.1,r7.2.2.2.2.2.2.2.2.2.2.2.2.2.2.2,(1:Int)),()) else bif decide (a1.2.1=(3:Int)) then (uK (a0.1,a0.2.2.2.1,a0.2.2.1)).bind fun r8=> (bnd r8.1.1.length a1.2.2.1 fun n9=> r8.1.1[n9]?.bind fun y10=> bnd r8.1.1.length a1.2.2.2 fun n11=> r8.1.1[n11]?.bind fun y12=> bif decide (y10=y12) then some (1:Int) else some (2:Int):Option (Int)).bind fun x13=> (kW (r0.1,a1,x13)).bind fun r14=> some ((r14.2.1,r14.2.2.1,r14.2.2.2.1,r14.2.2.2.2.1,r14.2.2.2.2.2.1,r14.2.2.2.2.2.2.1,r14.2.2.2.2.2.2.2.1,r14.2.2.2.2.2.2.2.2.1,r14.2.2.2.2.2.2.2.2.2.1,r14.2.2.2.2.2.2.2.2.2.2.1,r14.2.2.2.2.2.2.2.2.2.2.2.1,r14.2.2.2.2.2.2.2.2.2.2.2.2.1,r14.2.2.2.2.2.2.2.2.2.2.2.2.2.1,r14.2.2.2.2.2.2.2.2.2.2.2.2.2.2.1,r14.2.2.2.2.2.2.2.2.2.2.2.2.2.2.2,(1:Int)),()) else bif decide (a1.2.1=(4:Int)) then bnd a0.2.1.length a1.2.2.1 fun n15=> a0.2.1[n15]?.bind fun y16=> bif decide (y16=a1.2.2.2) then (kW (r0.1,a1,(2:Int))).bind fun r17=> some ((r17.2.1,r17.2.2.1,r17.2.2.2.1,r17.2.2.2.2.1,r17.2.2.2.2.2.1,r17.2.2.2.2.2.2.1,r17.2.2.2.2.2.2.2.1,r17.2.2.2.2.2.2.2.2.1,r17.2.2.2.2.2.2.2.2.2.1,r17.2.2.2.2.2.2.2.2.2.2.1,r17.2.2.2.2.2.2.2.2.2.2.2.1,r17.2.2.2.2.2.2.2.2.2.2.2.2.1,r17.2.2.2.2.2.2.2.2.2.2.2.2.2.1,r17.2.2.2.2.2.2.2.2.2.2.2.2.2.2.1,r17.2.2.2.2.2.2.2.2.2.2.2.2.2.2.2,(1:Int)),()) else bnd a0.2.1.length a1.2.2.1 fun n18=> a0.2.1[n18]?.bind fun y19=> (xY (r0.1,a1,y19,((0:Int),(3:Int),[],a1.2.2.1))).bind fun r20=> some ((r20.2.1,r20.2.2.1,r20.2.2.2.1,r20.2.2.2.2.1,r20.2.2.2.2.2.1,r20.2.2.2.2.2.2.1,r20.2.2.2.2.2.2.2.1,r20.2.2.2.2.2.2.2.2.1,r20.2.2.2.2.2.2.2.2.2.1,r20.2.2.2.2.2.2.2.2.2.2.1,r20.2.2.2.2.2.2.2.2.2.2.2.1,r20.2.2.2.2.2.2.2.2.2.2.2.2.1,r20.2.2.2.2.2.2.2.2.2.2.2.2.2.1,r20.2.2.2.2.2.2.2.2.2.2.2.2.2.2.1,r20.2.2.2.2.2.2.2.2.2.2.2.2.2.2.2,r20.1),()) else (zU (r0.1,a1)).bind fun r21=> some ((r21.2.1,r21.2.2.1,r21.2.2.2.1,r21.2.2.2.2.1,r21.2.2.2.2.2.1,r21.2.2.2.2.2.2.1,r21.2.2.2.2.2.2.2.1,r21.2.2.2.2.2.2.2.2.1,r21.2.2.2.2.2.2.2.2.2.1,r21.2.2.2.2.2.2.2.2.2.2.1,r21.2.2.2.2.2.2.2.2.2.2.2.1,r21.2.2.2.2.2.2.2.2.2.2.2.2.1,r21.2.2.2.2.2.2.2.2.2.2.2.2.2.1,r21.2.2.2.2.2.2.2.2.2.2.2.2.2.2.1,r21.2.2.2.2.2.2.2.2.2.2.2.2.2.2.2,r21.1),()):=by kernel_rfl
def zV:TC:=
 (zS [zIq 4 1000000005] (zS [bQ 16,zAz 116 17 17,af 5 17] (zS [bQ 18,zAB 3 19 19,zAe 20 1 19,af 6 20] (zS [[o1 21 (.build Jz [])],zIq 7 1000000008,ek 7 21 7 21] (zS [di 23 5 6,fG 25 110 23 24,Te 25 22 25 15,yV 27 22 15,bO 28,zHs 7 26 7 0 28 26] (zQ (.join [⟨7,Jz,false⟩] 70368207308672 none (zS [iq 8 1] (.block 0 (.loop [⟨7,Jz,false⟩,⟨8,[.i .i64],false⟩] 70368207308672 (zQ (zS [di 29 8 6,[o1 31 (.data (.bin .leq) [.t 29,.t 30])]] (zC 31 .skip (.exit 0))) (zQ (.block 1 (zS [di 35 8 5,fG 37 114 35 36,Bo 37 34 37 7 7,zBE 9 1000000010,oq 9 38 9 38] (zR [mO 40 7 15,gI 42 9 7,[⟨false,[42],[],.det 2 (.sli fQ [.t 42]),[43,42,42,9],(some 43),none⟩],zBx 41 41 43 44 41 43 41 7 44,bO 45,rD 7 44 41 7 15 45 44]))) (zR [eF 32 8 8]))))))) (zQ (.join [⟨0,fO,false⟩,⟨7,Jz,false⟩] 81129638414606681625420261030017 none (zS [bC 11] (.block 2 (.loop [⟨0,fO,false⟩,⟨7,Jz,false⟩,⟨11,[.i .i64],false⟩] 81129638414606681625420529465473 (zQ (zS [af 46 11,bQ 47,af 48 1,dH 49 117 48,Td 112 49 50 50,d_ 51 46 50] (zC 51 .skip (.exit 2))) (zQ (.join [⟨7,Jz,false⟩,⟨0,fO,false⟩] 81129638414606663681390495723649 none (.block 3 (zQ (zS [bO 54,XD 55 7 0 54 15,dH 56 39 55] (zC 56 (zS [yZ 57,yU 59 58,iR 60 7 9 59,oh 61 60,af 12 61] (zS [af 65 12,XC 1000000014 1000000015 63 63,XE 1000000014 1000000015 7 15 63 1 64 64,zIt 1000000014 1000000015 64 65 66 66,zIu 1000000014 1000000015 7 15 66 67 67,zKw 1000000014 1000000015 68 68,zIv 1000000014 1000000015 69 70 70,XE 1000000014 1000000015 7 10 70 4 71 71,zKp 1000000014 1000000015 40 67 71 72 72 62 62 0 7,zIw 1000000014 1000000015 62 7 4 74 62 74,Tc 1000000014 1000000015 62 11 75 75,zIx 1000000015 13 1000000014 13,zIy 1000000014 14 1000000015 14,ek 13 73 13 73,oq 14 74 14 74] (zQ (.join [⟨7,Jz,false⟩] 9903449433731788482300354688 none (zS [af 76 15,fV 77 76 0] (zC 77 (zS [mO 78 7 15,af 80 12,gI 81 13 7,jy 82 79 80,[⟨false,[81],[],.det 2 (.store 7 [(15,7)] 0 (.t 82) (.t 81)),[7,81,81,13,54,55,57,58,59,63,64,66,67,68,69,70,71,82,79,78],none,none⟩]] (zR [bO 84,XD 85 7 0 84 15,yY 86 12,gI 88 14 4,Kt 89 19 85 87 88,Te 89 83 89 15,yV 91 83 15,bO 92,rD 7 90 85 7 0 92 90])) .skip))) (.exit 3)))) .skip)) (zR [bQ 96,di 97 5 6,af 99 11,XB 0 94 94,zIz 0 7 0 94 15 95 95,Be 100 99,[⟨false,[],[],.call 2 41 [.t 0,.t 97,.t 98,.t 100] (.mp 0),[101,0],(some 101),none⟩],fG 102 11 95 101,Te 102 93 102 15,yV 104 93 15,bO 105,zIa 7 103 55 95 7 0 105 103])))) (zR [yY 52 11,af 11 53]))))))) (zS [kU 106 7 16 4 4 7] .ret))))))))
def LP:aJ:=⟨[.mp [.sl (.ro []) [.d],.d,.d],.rd false dY],(.one true [.d,.sl (.own none) [.d],.sl (.own none) [.d,.d],.sl (.own none) dY,.sl (.own none) [.d],.d,.d,.d,.d,.d,.d,.d,.sl (.own none) [.d,.d],.d,.sl (.own none) aau,.sl (.own none) EU])⟩
def zW:aH:=aA [(116,aeV),(112,oz),(110,Tk),(114,OQ),(117,Tn),(39,E8),(40,VK),(19,VO),(41,LJ),(11,VV)]
def zX (n:Nat):(List Int × Int × Int) × List (Int)->Option ((Int × List Int × List aF × List (List Int) × List Int × Int × Int × Int × Int × Int × Int × Int × List aF × Int × List lU × List l_) × List Int × Int × Int):=aD n zW zV [fO,[.sl [.i .u8]]] Jz fO [4] (.mp 0)
def zY:=zX BIG
def LQ:TSp:=⟨LP,[fO,[.sl [.i .u8]]],Jz,fO,Ou.j (.mp 0),zY⟩
theorem aa8:aM PG zW 38 LP (zV.ht 107) (.mp 0)=some (zV.wc zW,[4]):=by kernel_rfl
theorem YM:LQ.Ok PG 38:=aN (aa alA (aa rF (aa acH (aa aaM (aa acK (aa Gg (aa aaX (aa aa4 (aa Ub (aa aa7 (ak PG))))))))))) aa8 (by kernel_rfl)
theorem aa9 (n) (a0) (a1):zX n (a0,a1) = (N9 a0).bind fun r0=> (fF (r0.2,(3:Int))).bind fun r1=> (Ga (r0.1,IntKind.wrap .i64 ((1:Int)+r1.1))).bind fun r2=> (aI n (X:=Ky × Int) (B:=Ky) (fun self4 x3=> bif decide (x3.2<=(IntKind.wrap .i64 ((1:Int)+r1.1))) then (Cz (x3.2,r0.1)).bind fun r5=> bif decide (x3.1.2.2.2.2.2.2.2.2.2.2.2.2.2.2.2.length+([(r5.1.1,r5.1.2.1,r5.1.2.2.1,r5.1.2.2.2.1,r5.1.2.2.2.2.1,r5.1.2.2.2.2.2.1,r5.1.2.2.2.2.2.2.1)]).length<=4294967296) then self4 ((x3.1.1,x3.1.2.1,x3.1.2.2.1,x3.1.2.2.2.1,x3.1.2.2.2.2.1,x3.1.2.2.2.2.2.1,x3.1.2.2.2.2.2.2.1,x3.1.2.2.2.2.2.2.2.1,x3.1.2.2.2.2.2.2.2.2.1,x3.1.2.2.2.2.2.2.2.2.2.1,x3.1.2.2.2.2.2.2.2.2.2.2.1,x3.1.2.2.2.2.2.2.2.2.2.2.2.1,x3.1.2.2.2.2.2.2.2.2.2.2.2.2.1,x3.1.2.2.2.2.2.2.2.2.2.2.2.2.2.1,x3.1.2.2.2.2.2.2.2.2.2.2.2.2.2.2.1,x3.1.2.2.2.2.2.2.2.2.2.2.2.2.2.2.2++([(r5.1.1,r5.1.2.1,r5.1.2.2.1,r5.1.2.2.2.1,r5.1.2.2.2.2.1,r5.1.2.2.2.2.2.1,r5.1.2.2.2.2.2.2.1)])),IntKind.wrap .i64 (x3.2+(1:Int))) else none else some x3.1) ((r2.1.1,r2.1.2.1,r2.1.2.2.1,r2.1.2.2.2.1,r2.1.2.2.2.2.1,r2.1.2.2.2.2.2.1,r2.1.2.2.2.2.2.2.1,r2.1.2.2.2.2.2.2.2.1,r2.1.2.2.2.2.2.2.2.2.1,r2.1.2.2.2.2.2.2.2.2.2.1,r2.1.2.2.2.2.2.2.2.2.2.2.1,r2.1.2.2.2.2.2.2.2.2.2.2.2.1,r2.1.2.2.2.2.2.2.2.2.2.2.2.2.1,r2.1.2.2.2.2.2.2.2.2.2.2.2.2.2.1,r2.1.2.2.2.2.2.2.2.2.2.2.2.2.2.2.1,[]),(1:Int)):Option (Ky)).bind fun x6=> (aI n (X:=(List Int × Int × Int) × Ky × Int) (B:=(List Int × Int × Int) × Ky) (fun self8 x7=> (Gf a1).bind fun r9=> (fF (x7.1,r9.1)).bind fun r10=> bif decide (x7.2.2<r10.1) then ((qB (x7.2.1.1,x7.2.1.2.1,x7.2.1.2.2.1,x7.2.1.2.2.2.1,x7.2.1.2.2.2.2.1,x7.2.1.2.2.2.2.2.1,x7.2.1.2.2.2.2.2.2.1,x7.2.1.2.2.2.2.2.2.2.1,x7.2.1.2.2.2.2.2.2.2.2.1,x7.2.1.2.2.2.2.2.2.2.2.2.1,x7.2.1.2.2.2.2.2.2.2.2.2.2.1,x7.2.1.2.2.2.2.2.2.2.2.2.2.2.1,x7.2.1.2.2.2.2.2.2.2.2.2.2.2.2.1,x7.2.1.2.2.2.2.2.2.2.2.2.2.2.2.2.1,x7.2.1.2.2.2.2.2.2.2.2.2.2.2.2.2.2.1)).bind fun r11=> bif r11.1 then bnd x7.2.1.2.2.2.2.2.2.2.2.2.2.2.2.2.2.2.length (IntKind.wrap .i64 (x7.2.1.2.2.2.2.2.2.2.2.2.1-(1:Int))) fun n12=> x7.2.1.2.2.2.2.2.2.2.2.2.2.2.2.2.2.2[n12]?.bind fun y13=> (lL (y13,(x7.2.1.2.2.2.2.2.2.2.2.2.2.1,x7.2.1.2.2.2.2.2.2.2.2.2.2.2.1,x7.2.1.2.2.2.2.2.2.2.2.2.2.2.2.1,x7.2.1.2.2.2.2.2.2.2.2.2.2.2.2.2.1))).bind fun r14=> (bif decide (r14.1.2.2.2.2.2.2.2.2.2.2.2=(0:Int)) then bnd x7.2.1.2.2.2.2.2.2.2.2.2.2.2.2.2.2.2.length (IntKind.wrap .i64 (x7.2.1.2.2.2.2.2.2.2.2.2.1-(1:Int))) fun n15=> x7.2.1.2.2.2.2.2.2.2.2.2.2.2.2.2.2.2[n15]?.bind fun y16=> (uG ((x7.2.1.1,x7.2.1.2.1,x7.2.1.2.2.1,x7.2.1.2.2.2.1,x7.2.1.2.2.2.2.1,x7.2.1.2.2.2.2.2.1,x7.2.1.2.2.2.2.2.2.1,x7.2.1.2.2.2.2.2.2.2.1,x7.2.1.2.2.2.2.2.2.2.2.1,x7.2.1.2.2.2.2.2.2.2.2.2.1,x7.2.1.2.2.2.2.2.2.2.2.2.2.1,x7.2.1.2.2.2.2.2.2.2.2.2.2.2.1,x7.2.1.2.2.2.2.2.2.2.2.2.2.2.2.1,x7.2.1.2.2.2.2.2.2.2.2.2.2.2.2.2.1,x7.2.1.2.2.2.2.2.2.2.2.2.2.2.2.2.2.1),IntKind.wrap .i64 ((IntKind.wrap .i64 (x7.2.1.2.2.2.2.2.2.2.2.2.1-(1:Int)))+(1:Int)),(r14.1.2.2.2.2.2.2.2.1,r14.1.2.2.2.2.2.2.2.2.1,r14.1.2.2.2.2.2.2.2.2.2.1,r14.1.2.2.2.2.2.2.2.2.2.2.1))).bind fun r17=> some (r17.1.1,r17.1.2.1,r17.1.2.2.1,r17.1.2.2.2.1,r17.1.2.2.2.2.1,r17.1.2.2.2.2.2.1,r17.1.2.2.2.2.2.2.1,r17.1.2.2.2.2.2.2.2.1,r17.1.2.2.2.2.2.2.2.2.1,r17.1.2.2.2.2.2.2.2.2.2.1,r17.1.2.2.2.2.2.2.2.2.2.2.1,r17.1.2.2.2.2.2.2.2.2.2.2.2.1,r17.1.2.2.2.2.2.2.2.2.2.2.2.2.1,r17.1.2.2.2.2.2.2.2.2.2.2.2.2.2.1,r17.1.2.2.2.2.2.2.2.2.2.2.2.2.2.2.1,x7.2.1.2.2.2.2.2.2.2.2.2.2.2.2.2.2.2.set n15 (r14.1.1,r14.1.2.1,r14.1.2.2.1,r14.1.2.2.2.1,r14.1.2.2.2.2.1,r14.1.2.2.2.2.2.1,r14.1.2.2.2.2.2.2.1)) else some x7.2.1:Option (Ky)).bind fun x18=> some (x18,r10.2) else (BI (r10.2,r0.1,IntKind.wrap .i64 ((1:Int)+r1.1),IntKind.wrap .i64 (x7.2.2+(1:Int)))).bind fun r19=> (Fe ((x7.2.1.1,x7.2.1.2.1,x7.2.1.2.2.1,x7.2.1.2.2.2.1,x7.2.1.2.2.2.2.1,x7.2.1.2.2.2.2.2.1,x7.2.1.2.2.2.2.2.2.1,x7.2.1.2.2.2.2.2.2.2.1,x7.2.1.2.2.2.2.2.2.2.2.1,x7.2.1.2.2.2.2.2.2.2.2.2.1,x7.2.1.2.2.2.2.2.2.2.2.2.2.1,x7.2.1.2.2.2.2.2.2.2.2.2.2.2.1,x7.2.1.2.2.2.2.2.2.2.2.2.2.2.2.1,x7.2.1.2.2.2.2.2.2.2.2.2.2.2.2.2.1,x7.2.1.2.2.2.2.2.2.2.2.2.2.2.2.2.2.1),r19.1)).bind fun r20=> some ((r20.1.1,r20.1.2.1,r20.1.2.2.1,r20.1.2.2.2.1,r20.1.2.2.2.2.1,r20.1.2.2.2.2.2.1,r20.1.2.2.2.2.2.2.1,r20.1.2.2.2.2.2.2.2.1,r20.1.2.2.2.2.2.2.2.2.1,r20.1.2.2.2.2.2.2.2.2.2.1,r20.1.2.2.2.2.2.2.2.2.2.2.1,r20.1.2.2.2.2.2.2.2.2.2.2.2.1,r20.1.2.2.2.2.2.2.2.2.2.2.2.2.1,r20.1.2.2.2.2.2.2.2.2.2.2.2.2.2.1,r20.1.2.2.2.2.2.2.2.2.2.2.2.2.2.2.1,x7.2.1.2.2.2.2.2.2.2.2.2.2.2.2.2.2.2),r19.2):Option (Ky × (List Int × Int × Int))).bind fun x21=> self8 (x21.2,x21.1,IntKind.wrap .i64 (x7.2.2+(1:Int))) else some (r10.2,x7.2.1)) (r1.2,x6,(0:Int)):Option ((List Int × Int × Int) × Ky)).bind fun x22=> some (x22.2,x22.1):=by kernel_rfl
def pO:TC:=
 (zS [rC 2 1000000003,[o1 3 (.lit Ty4 [.slice none 0 0])],zIj 4 1000000005] (zS [af 12 0,dH 13 37 12,bQ 5] (zS [qy 14 5,af 15 0,zIp 38 13 15 16 13 16,zIq 6 1000000007,ek 6 16 6 16] (zQ (.join [⟨6,Jz,false⟩] 1152921504606719936 none (zS [bC 7] (.block 0 (.loop [⟨6,Jz,false⟩,⟨7,[.i .i64],false⟩] 1152921504606719936 (zQ (.seq (.join [⟨23,[.b],false⟩] 16646144 none (zR [af 17 7,zEn 18 17 4,af 19 18,jA 20 2,[o2 21 (.load 6 [] 0 (.t 20) 15 true) 2 true],zEw 39 21 22 22 2,lC 19 22 23])) (zC 23 .skip (.exit 0))) (zQ (.block 1 (zS [yZ 26,yU 28 27,iR 29 6 9 28,oh 30 29,af 8 30] (zS [af 34 8,XC 1000000010 1000000011 32 32,XE 1000000010 1000000011 6 15 32 1 33 33,zIt 1000000010 1000000011 33 34 35 35,zIu 1000000010 1000000011 6 15 35 36 36,zKw 1000000010 1000000011 37 37,zIv 1000000010 1000000011 38 39 39,XE 1000000010 1000000011 6 10 39 4 40 40,zKp 1000000010 1000000011 40 36 40 41 41 31 31 0 7,zIw 1000000010 1000000011 31 7 4 43 31 43,Tc 1000000010 1000000011 31 11 44 44,zIx 1000000011 9 1000000010 9,zIy 1000000010 10 1000000011 10,ek 9 42 9 42,oq 10 43 10 43] (zS [mO 45 6 15,af 47 8,gI 48 9 7,jy 49 46 47,[⟨false,[48],[],.det 2 (.store 6 [(15,7)] 0 (.t 49) (.t 48)),[6,48,48,9,26,27,28,32,33,35,36,37,38,39,40,49,46,45],none,none⟩]] (zR [bO 51,XD 52 6 0 51 15,yY 53 8,gI 55 10 4,Kt 56 19 52 54 55,Te 56 50 56 15,yV 58 50 15,bO 59,rD 6 57 52 6 0 59 57]))))) (zR [eF 24 7 7]))))))) (zS [[⟨false,[],[3000006001,3000006002,3000006003,3000006004,3000006012,3000006014],.det 1 (.same 5),[64,6,6,6,6,6,6],(some 64),none⟩],XB 13 60 60,zIA 13 6 0 60 15 61 61,XC 13 2 62 62,XE 13 2 6 15 62 1 63 63,yZ 65,iR 67 6 0 66,mO 68 6 15,dW 70 69,[⟨false,[],[],.call 2 41 [.t 13,.t 67,.t 70,kO 200] (.mp 0),[71,13],(some 71),none⟩],cZ 2 2 61,[⟨false,[63],[],.det 2 (.copy 63),[3,63,63,6,69],(some 3),none⟩],cZ 4 4 71] .ret)))))
def zZ:aJ:=⟨[.rd false dY],(.tup [(true,15),(false,1),(true,4)] [.d,.sl (.ro []) [.d],.sl (.ro []) [.d,.d],.sl (.ro []) [.sl (.ro []) [.d]],.sl (.ro []) [.d],.d,.d,.d,.d,.d,.d,.d,.sl (.ro []) [.d,.d],.d,.sl (.ro []) aau,.sl (.own none) EU,.d,.d,.d,.d])⟩
def pQ:aH:=aA [(37,XG),(38,LQ),(39,E8),(40,VK),(19,VO),(41,LJ)]
def pR (n:Nat):List (Int)->Option ((Int × List Int × List aF × List (List Int) × List Int × Int × Int × Int × Int × Int × Int × Int × List aF × Int × List lU × List l_ × Int × Int × Int × Int) × Unit):=aD n pQ pO [[.sl [.i .u8]]] [.i .i64,.sl [.i .i64],.sl [.i .i64,.i .i64],.sl [.sl [.i .i64]],.sl [.i .i64],.i .i64,.i .i64,.i .i64,.i .i64,.i .i64,.i .i64,.i .i64,.sl [.i .i64,.i .i64],.i .i64,.sl Xw,.sl fQ,.i .i64,.i .i64,.i .i64,.i .i64] [] [2,3,4] .no
def pU:=pR BIG
def z8:TSp:=⟨zZ,[[.sl [.i .u8]]],[.i .i64,.sl [.i .i64],.sl [.i .i64,.i .i64],.sl [.sl [.i .i64]],.sl [.i .i64],.i .i64,.i .i64,.i .i64,.i .i64,.i .i64,.i .i64,.i .i64,.sl [.i .i64,.i .i64],.i .i64,.sl Xw,.sl fQ,.i .i64,.i .i64,.i .i64,.i .i64],[],Ou.j .no,pU⟩
theorem QT:aM PG pQ 8 zZ (pO.ht 72) .no=some (pO.wc pQ,[2,3,4]):=by kernel_rfl
theorem Ot:z8.Ok PG 8:=aN (aa agk (aa YM (aa Gg (aa aaX (aa aa4 (aa Ub (ak PG))))))) QT (by kernel_rfl)
theorem QU (n) (a0):pR n a0 = (Bq a0).bind fun r0=> (zY (r0.1,a0)).bind fun r1=> (aI n (X:=Ky × Int) (B:=Ky) (fun self3 x2=> (bif decide (x2.2<(4:Int)) then (qB (x2.1.1,x2.1.2.1,x2.1.2.2.1,x2.1.2.2.2.1,x2.1.2.2.2.2.1,x2.1.2.2.2.2.2.1,x2.1.2.2.2.2.2.2.1,x2.1.2.2.2.2.2.2.2.1,x2.1.2.2.2.2.2.2.2.2.1,x2.1.2.2.2.2.2.2.2.2.2.1,x2.1.2.2.2.2.2.2.2.2.2.2.1,x2.1.2.2.2.2.2.2.2.2.2.2.2.1,x2.1.2.2.2.2.2.2.2.2.2.2.2.2.1,x2.1.2.2.2.2.2.2.2.2.2.2.2.2.2.1,x2.1.2.2.2.2.2.2.2.2.2.2.2.2.2.2.1)).bind fun r4=> some r4.1 else some false:Option (Bool)).bind fun x5=> bif x5 then bnd x2.1.2.2.2.2.2.2.2.2.2.2.2.2.2.2.2.length (IntKind.wrap .i64 (x2.1.2.2.2.2.2.2.2.2.2.1-(1:Int))) fun n6=> x2.1.2.2.2.2.2.2.2.2.2.2.2.2.2.2.2[n6]?.bind fun y7=> (lL (y7,(x2.1.2.2.2.2.2.2.2.2.2.2.1,x2.1.2.2.2.2.2.2.2.2.2.2.2.1,x2.1.2.2.2.2.2.2.2.2.2.2.2.2.1,x2.1.2.2.2.2.2.2.2.2.2.2.2.2.2.1))).bind fun r8=> bnd x2.1.2.2.2.2.2.2.2.2.2.2.2.2.2.2.2.length (IntKind.wrap .i64 (x2.1.2.2.2.2.2.2.2.2.2.1-(1:Int))) fun n9=> x2.1.2.2.2.2.2.2.2.2.2.2.2.2.2.2.2[n9]?.bind fun y10=> (uG ((x2.1.1,x2.1.2.1,x2.1.2.2.1,x2.1.2.2.2.1,x2.1.2.2.2.2.1,x2.1.2.2.2.2.2.1,x2.1.2.2.2.2.2.2.1,x2.1.2.2.2.2.2.2.2.1,x2.1.2.2.2.2.2.2.2.2.1,x2.1.2.2.2.2.2.2.2.2.2.1,x2.1.2.2.2.2.2.2.2.2.2.2.1,x2.1.2.2.2.2.2.2.2.2.2.2.2.1,x2.1.2.2.2.2.2.2.2.2.2.2.2.2.1,x2.1.2.2.2.2.2.2.2.2.2.2.2.2.2.1,x2.1.2.2.2.2.2.2.2.2.2.2.2.2.2.2.1),IntKind.wrap .i64 ((IntKind.wrap .i64 (x2.1.2.2.2.2.2.2.2.2.2.1-(1:Int)))+(1:Int)),(r8.1.2.2.2.2.2.2.2.1,r8.1.2.2.2.2.2.2.2.2.1,r8.1.2.2.2.2.2.2.2.2.2.1,r8.1.2.2.2.2.2.2.2.2.2.2.1))).bind fun r11=> self3 ((r11.1.1,r11.1.2.1,r11.1.2.2.1,r11.1.2.2.2.1,r11.1.2.2.2.2.1,r11.1.2.2.2.2.2.1,r11.1.2.2.2.2.2.2.1,r11.1.2.2.2.2.2.2.2.1,r11.1.2.2.2.2.2.2.2.2.1,r11.1.2.2.2.2.2.2.2.2.2.1,r11.1.2.2.2.2.2.2.2.2.2.2.1,r11.1.2.2.2.2.2.2.2.2.2.2.2.1,r11.1.2.2.2.2.2.2.2.2.2.2.2.2.1,r11.1.2.2.2.2.2.2.2.2.2.2.2.2.2.1,r11.1.2.2.2.2.2.2.2.2.2.2.2.2.2.2.1,x2.1.2.2.2.2.2.2.2.2.2.2.2.2.2.2.2.set n9 (r8.1.1,r8.1.2.1,r8.1.2.2.1,r8.1.2.2.2.1,r8.1.2.2.2.2.1,r8.1.2.2.2.2.2.1,r8.1.2.2.2.2.2.2.1)),IntKind.wrap .i64 (x2.2+(1:Int))) else some x2.1) (r1.1,(0:Int)):Option (Ky)).bind fun x12=> (BI (r1.2,x12.1,(x12.2.2.2.2.2.2.2.2.2.2.2.2.2.2.2.length:Int),(200:Int))).bind fun r13=> some ((x12.1,x12.2.1,x12.2.2.1,x12.2.2.2.1,x12.2.2.2.2.1,x12.2.2.2.2.2.1,x12.2.2.2.2.2.2.1,x12.2.2.2.2.2.2.2.1,x12.2.2.2.2.2.2.2.2.1,x12.2.2.2.2.2.2.2.2.2.1,x12.2.2.2.2.2.2.2.2.2.2.1,x12.2.2.2.2.2.2.2.2.2.2.2.1,x12.2.2.2.2.2.2.2.2.2.2.2.2.1,x12.2.2.2.2.2.2.2.2.2.2.2.2.2.1,x12.2.2.2.2.2.2.2.2.2.2.2.2.2.2.1,x12.2.2.2.2.2.2.2.2.2.2.2.2.2.2.2,r13.1),()):=by kernel_rfl
def LU:TC:=
 (zS [bM 1 0,tT 2] (zQ (zS [bS 3 1 2,dH 4 127 3,gX 5 4] (zC 5 (zS [v_ 6,bH 6 2 6] .ret) .skip)) (zS [eZ 7 1 0 7,eZ 9 1 1 9,fG 11 142 8 10,bH 11 2 11] .ret)))
def X4:aJ:=⟨[.rd true wN],(.one false dY)⟩
def LV:aH:=aA [(127,rO),(142,rG)]
def BJ (n:Nat):jB->Option ((List Int) × Unit):=aD n LV LU [eH] [.sl [.i .i64]] [] [2] .no
def BK:=BJ BIG
def X5:TSp:=⟨X4,[eH],[.sl [.i .i64]],[],Ou.j .no,BK⟩
theorem ajK:aM PG LV 126 X4 (LU.ht 12) .no=some (LU.wc LV,[2]):=by kernel_rfl
theorem ag7:X5.Ok PG 126:=aN (aa vk (aa wO (ak PG))) ajK (by kernel_rfl)
theorem X6 (n) (a0):BJ n a0 = (nC a0).bind fun r0=> bif !r0.1 then some ([],()) else (mP (a0.1,a0.2)).bind fun r1=> some (r1.1,()):=by kernel_rfl
def Dm:TC:=
 (zS [bM 3 0,a_ 6] (zS [bS 8 3 2,dH 9 126 8,bH 9 7 9] (zQ (.join [⟨6,[.b],false⟩] 8589933632 none (zR [af 10 1,cO 11 7,dW 12 11,oh 13 12,OH 14 42 10 13,af 15 14,cK 16 2 5,EY 7 17 17 5,zEr 18 17 5,EX 19 18 5,Xy 42 16 19 20 20 5,iT 15 20 21,EY 7 23 23 12,cK 24 1 12,kT 25 23 24 12,tV 26 7 1 25 12,EY 7 27 27 12,cK 28 2 12,kT 29 27 28 12,tV 30 7 1 29 12,xu 31 26 30 12,jW 22 31 32 6])) .ret)))
def Pg:aJ:=⟨[.rd true wN,.rd false [.d],.rd false [.d]],(.one false [.d])⟩
def Dp:aH:=aA [(126,X5),(42,dz)]
def Dq (n:Nat):jB × Int × Int->Option ((Bool) × Unit):=aD n Dp Dm [eH,[.i .i64],[.i .i64]] [.b] [] [6] .no
def Dr:=Dq BIG
def Ph:TSp:=⟨Pg,[eH,[.i .i64],[.i .i64]],[.b],[],Ou.j .no,Dr⟩
theorem ac7:aM PG Dp 43 Pg (Dm.ht 33) .no=some (Dm.wc Dp,[6]):=by kernel_rfl
theorem aa_:Ph.Ok PG 43:=aN (aa ag7 (aa cB (ak PG))) ac7 (by kernel_rfl)
theorem ac8 (n) (a0) (a1) (a2):Dq n (a0,a1,a2) = (BK a0).bind fun r0=> ((bg (a1,(0:Int),IntKind.wrap .i64 ((r0.1.length:Int)-(1:Int)))).bind fun r1=> bif r1.1 then (bg (a2,(0:Int),IntKind.wrap .i64 ((r0.1.length:Int)-(1:Int)))).bind fun r2=> bif r2.1 then bnd r0.1.length a1 fun n3=> r0.1[n3]?.bind fun y4=> bnd r0.1.length a2 fun n5=> r0.1[n5]?.bind fun y6=> some (decide (y4=y6)) else some false else some false:Option (Bool)).bind fun x7=> some (x7,()):=by kernel_rfl
def Dt:TC:=
 (zS [bM 2 0,bM 3 1,Bh 4 1000000005,a_ 5] (zQ (.seq (.join [⟨14,[.b],false⟩] 32704 none (zR [bS 6 2 2,dH 7 127 6,gX 8 7,af 9 8,wu 10 2 2 3,Kw 11 3 2 3 129 10 3,nL 13 12 3 9])) (zC 14 (zS [zGp 15,ek 4 15 4 15,a_ 5] .ret) .skip)) (zS [ky 16 2 0 2 1,nN 20 3 2 131 19,zGq 17 21 22 21,ek 4 22 4 22,gu 5] .ret)))
def Pi:aJ:=⟨[.rd true wN,.rd true [.d,.d]],(.tup [(true,2),(false,1)] Ct9)⟩
def Du:aH:=aA [(127,rO),(129,xV),(131,oN)]
def Dv (n:Nat):jB × aF->Option (alz × Unit):=aD n Du Dt [eH,[.i .i64,.i .i64]] VA [] [4,5] .no
def Dw:=Dv BIG
def Pj:TSp:=⟨Pi,[eH,[.i .i64,.i .i64]],VA,[],Ou.j .no,Dw⟩
theorem ac9:aM PG Du 46 Pi (Dt.ht 23) .no=some (Dt.wc Du,[4,5]):=by kernel_rfl
theorem aba:Pj.Ok PG 46:=aN (aa vk (aa C8 (aa uF (ak PG)))) ac9 (by kernel_rfl)
theorem ac_ (n) (a0) (a1):Dv n (a0,a1) = ((nC a0).bind fun r0=> bif !r0.1 then some true else (rZ (a0,a1)).bind fun r1=> some !r1.1:Option (Bool)).bind fun x2=> bif x2 then some (((0:Int),[],false),()) else (lF (a0.2,a1)).bind fun r3=> some ((a0.1,r3.1,true),()):=by kernel_rfl
def QV:TC:=
 (zS [bM 2 0,bM 3 1,Bh 4 1000000005,bC 5] (zS [XB 1000000007 9 9,zGA 1000000007 2 0 9 10 10,[⟨false,[],[1000000007],.det 1 (.sli [.i .i64,.i .i64] []),[11],(some 11),none⟩],xz 1000000007 12 12 2 1,[⟨false,[],[1000000007],.det 2 (.app (some 11) 13),[14,11],(some 14),none⟩,⟨false,[],[1000000007],.det 2 (.build eH [(0,.t 10),(1,.t 14)]),[15,14],(some 15),none⟩],Bh 6 1000000007,ek 6 15 6 15] (zQ (.seq (.join [⟨32,[.b],false⟩] 8589869056 none (zR [aW 16 3 1,lD 18 42 17 4,jg 19 18,gJ 21 4 3 2 4,zIm 23 22 0 4,dw 24 23 4,nM 25 8 3 2 8,nM 27 8 2 0 8,zDp 29 26 28 8,zDt 24 29 30 30 4,nL 31 30 4 20])) (zC 32 (zS [kU 33 6 2 4 4 6,iq 5 3] .ret) .skip)) (zQ (zS [aW 34 3 1,fV 36 35 4] (zC 36 (zQ (zS [aW 37 3 3,lD 39 42 38 3,gX 40 39] (zC 40 (zS [kU 41 6 2 4 4 6,iq 5 3] .ret) .skip)) (zS [kU 42 6 2 4 4 6,iq 5 1] .ret)) .skip)) (zQ (.seq (.join [⟨65,[.b],false⟩] 73786967498745184256 none (zR [aW 43 3 3,zGE 45 44,ow 46 45 3 3 3 3,nM 49 3 2 0 3,zDp 51 48 50 3,lC 46 51 52,jg 53 52,xA 55 11 3 2,xA 57 11 3 3,zDs 59 56 58 11,dw 60 59 11,gU 61 17 3 1,zHy 63 62 17,xB 60 63 64 64 11 54])) (zC 65 (zS [kU 66 6 2 4 4 6,iq 5 3] .ret) .skip)) (zQ (zS [aW 67 3 1,fV 69 68 3] (zC 69 (zQ (zS [bS 70 2 2,ky 71 3 2 3 3,Kt 75 43 70 72 74] (zC 75 (zS [kU 76 6 2 4 4 6,iq 5 1] .ret) .skip)) (zS [kU 77 6 2 4 4 6,iq 5 2] .ret)) .skip)) (zS [JD 1000000008 2 2 79 79,JD 1000000008 3 4 80 80,XA 1000000008 45 80 81 81,zGv 1000000008 44 79 81 82 82,zLd 1000000008 82 78 82 78,Bh 7 1000000008,oq 7 83 7 83] (zQ (.join [⟨7,eH,false⟩,⟨8,[.b],false⟩] 39575395630904500663181377920 none (zS [aW 85 3 1,fV 87 86 2] (zC 87 (zR [bS 89 2 2,tX 90 3 4 45,fG 92 46 89 91,Bo 92 88 92 2 2,oq 7 93 7 93]) .skip))) (zQ (zS [af 95 8,gX 96 95] (zC 96 (zS [kU 97 6 2 4 4 6,iq 5 2] .ret) .skip)) (zS [kU 98 7 2 4 4 7,iq 5 1] .ret))))))))))
def abb:aJ:=⟨[.rd true wN,.rd true [.d,.d,.d,.d]],(.tup [(true,2),(false,1)] Ct9)⟩
def QW:aH:=aA [(42,dz),(43,Ph),(45,H8),(44,He),(46,Pj)]
def QY (n:Nat):jB × kr->Option ((Int × List aF × Int) × Unit):=aD n QW QV [eH,dD] [.i .i64,.sl [.i .i64,.i .i64],.i .i64] [] [4,5] .no
def H9:=QY BIG
def abd:TSp:=⟨abb,[eH,dD],[.i .i64,.sl [.i .i64,.i .i64],.i .i64],[],Ou.j .no,H9⟩
theorem alH:aM PG QW 9 abb (QV.ht 99) .no=some (QV.wc QW,[4,5]):=by kernel_rfl
theorem ajL:abd.Ok PG 9:=aN (aa cB (aa aa_ (aa Pf (aa O6 (aa aba (ak PG)))))) alH (by kernel_rfl)
theorem alI (n) (a0) (a1):QY n (a0,a1) = bif decide (0+a0.2.length<=4294967296) then ((bg (a1.2.1,(1:Int),(4:Int))).bind fun r0=> bif !r0.1 then some true else bif decide ((0:Int)<=a1.2.2.1) then some (!(decide (a1.2.2.1<a0.1))) else some true:Option (Bool)).bind fun x1=> bif x1 then some ((a0.1,[]++a0.2,(3:Int)),()) else bif decide (a1.2.1=(4:Int)) then (bg (a1.2.2.2,(1:Int),(3:Int))).bind fun r2=> bif !r2.1 then some ((a0.1,[]++a0.2,(3:Int)),()) else some ((a0.1,[]++a0.2,(1:Int)),()) else (bif decide ((0:Int)<=a1.2.2.2) then bif !(decide (a1.2.2.2<a0.1)) then some true else bif decide (a1.2.2.1=a1.2.2.2) then some (!decide (a1.2.1=(3:Int))) else some false else some true:Option (Bool)).bind fun x3=> bif x3 then some ((a0.1,[]++a0.2,(3:Int)),()) else bif decide (a1.2.1=(3:Int)) then (Dr (a0,a1.2.2.1,a1.2.2.2)).bind fun r4=> bif r4.1 then some ((a0.1,[]++a0.2,(1:Int)),()) else some ((a0.1,[]++a0.2,(2:Int)),()) else (sN a1).bind fun r5=> (xW (a0,r5.1)).bind fun r6=> (bif decide (a1.2.1=(2:Int)) then (sN a1).bind fun r7=> (Dw (a0,r7.1)).bind fun r8=> some ((r8.1.1,r8.1.2.1),r8.1.2.2) else some ((r6.1.1,r6.1.2.1),r6.1.2.2):Option (jB × Bool)).bind fun x9=> bif !x9.2 then some ((a0.1,[]++a0.2,(2:Int)),()) else some ((x9.1.1,x9.1.2,(1:Int)),()) else none:=by kernel_rfl
def Dx:TC:=
 (zS [tT 2] (zS [af 3 0,zIB 4 3,bH 4 2 4] .ret))
def Pk:aJ:=⟨[.rd false dY],(.one false dY)⟩
def Dy:aH:=aA []
def vD (n:Nat):List (Int)->Option ((List Int) × Unit):=aD n Dy Dx [[.sl [.i .i64]]] [.sl [.i .i64]] [] [2] .no
def ji:=vD BIG
def vE:TSp:=⟨Pk,[[.sl [.i .i64]]],[.sl [.i .i64]],[],Ou.j .no,ji⟩
theorem ada:aM PG Dy 72 Pk (Dx.ht 5) .no=some (Dx.wc Dy,[2]):=by kernel_rfl
theorem z_:vE.Ok PG 72:=aN (ak PG) ada (by kernel_rfl)
theorem Pm (n) (a0):vD n a0 = bif decide (a0.length<=4294967296) then some (a0,()) else none:=by kernel_rfl
def Aa:TC:=
 (zS [wm 2] (zS [af 3 0,zIB 4 3,bH 4 2 4] .ret))
def LW:aJ:=⟨[.rd false fJ],(.one false fJ)⟩
def Ab:aH:=aA []
def Ac (n:Nat):(List aF)->Option ((List aF) × Unit):=aD n Ab Aa [[.sl [.i .i64,.i .i64]]] [.sl [.i .i64,.i .i64]] [] [2] .no
def mU:=Ac BIG
def sO:TSp:=⟨LW,[[.sl [.i .i64,.i .i64]]],[.sl [.i .i64,.i .i64]],[],Ou.j .no,mU⟩
theorem abe:aM PG Ab 132 LW (Aa.ht 5) .no=some (Aa.wc Ab,[2]):=by kernel_rfl
theorem wV:sO.Ok PG 132:=aN (ak PG) abe (by kernel_rfl)
theorem abf (n) (a0):Ac n a0 = bif decide (a0.length<=4294967296) then some (a0,()) else none:=by kernel_rfl
def Dz:TC:=
 (zS [bM 1 0,zHw 2 1000000003] (zS [bO 3,yU 4 3,iR 5 1 7 4,dH 6 132 5,bO 7,yU 8 7,Bj 6 7 8 6] (zS [gI 9 1 9,Bg 9 2 9 2 9 9 1] .ret)))
def Pn:aJ:=⟨[.rd true Ct4],(.one true Ct4)⟩
def DC:aH:=aA [(132,sO)]
def DD (n:Nat):Zt7->Option (Zt7 × Unit):=aD n DC Dz [Km] Km [] [2] .no
def DI:=DD BIG
def Po:TSp:=⟨Pn,[Km],Km,[],Ou.j .no,DI⟩
theorem adb:aM PG DC 133 Pn (Dz.ht 10) .no=some (Dz.wc DC,[2]):=by kernel_rfl
theorem abg:Po.Ok PG 133:=aN (aa wV (ak PG)) adb (by kernel_rfl)
theorem adc (n) (a0):DD n a0 = (mU a0.2.2.2.2.2.2.2.1).bind fun r0=> some ((a0.1,a0.2.1,a0.2.2.1,a0.2.2.2.1,a0.2.2.2.2.1,a0.2.2.2.2.2.1,a0.2.2.2.2.2.2.1,r0.1,a0.2.2.2.2.2.2.2.2),()):=by kernel_rfl
end
end Go.Fw
