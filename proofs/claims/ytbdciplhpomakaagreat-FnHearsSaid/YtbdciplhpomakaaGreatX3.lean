/- The given functions, as what they compute; each is shown to be what the code does. No conditions. -/
import Derived.Test.YtbdciplhpomakaaGreatX2
set_option linter.unusedVariables false
set_option linter.unusedSimpArgs false
set_option linter.unusedSectionVars false
namespace Go.Fw
noncomputable section
def D5:TC:=
 (zS [iK 1 0] (zQ (.join [⟨2,[.b],false⟩] 8388604 none (zR [fK 3 1 0 3,tJ 5 4 0,ai 6 5,ko 7 3,tF 8 1 1 7 3,zDz 9 8 3,kS 6 9 10,tN 12 8 1 2 8,zEq 14 13 8,Oz 15 14 8,kS 11 15 16,xe 18 14 1 3,zEq 20 19 14,Oz 21 20 14,kU 17 21 22 2])) .ret))
def PQ:aI:=⟨[.rd true Az],(.one false [.d])⟩
def D6:aH:=aA []
def D7 (n:Nat):iC->Option ((Bool) × Unit):=aC n D6 D5 [fQ] [.b] [] [2] .no
def D8:=D7 BIG
def PR:TSp:=⟨PQ,[fQ],[.b],[],Ou.j .no,D8⟩
theorem adW:aM PG D6 83 PQ (D5.ht 23) .no=some (D5.wc D6,[2]):=by kernel_rfl
theorem abW:PR.Ok PG 83:=aN (aj PG) adW (by kernel_rfl)
theorem adX (n) (a0):D7 n a0 = (bif decide (a0.1=(0:Int)) then bif !a0.2.1 then bif decide ((a0.2.2.1.length:Int)=(0:Int)) then some (decide ((a0.2.2.2.length:Int)=(0:Int))) else some false else some false else some false:Option (Bool)).bind fun x0=> some (x0,()):=by kernel_rfl
def Ac:TC:=
 (zS [bW 1 0,EF 2] (zQ (zS [dw 3 1 2,dX 4 146 3,iH 5 4] (zC 5 (zS [EF 2] .ret) .skip)) (zS [dw 6 1 2,zGd 7 154 6,bV 7 2 7] .ret)))
def MS:aI:=⟨[.rd true qa],(.one false dF)⟩
def Ad:aH:=aA [(146,Ab),(154,lM)]
def Ae (n:Nat):bK->Option ((List Int) × Unit):=aC n Ad Ac [bv] [.sl [.i .i64]] [] [2] .no
def mV:=Ae BIG
def Af:TSp:=⟨MS,[bv],[.sl [.i .i64]],[],Ou.j .no,mV⟩
theorem abX:aM PG Ad 70 MS (Ac.ht 8) .no=some (Ac.wc Ad,[2]):=by kernel_rfl
theorem JA:Af.Ok PG 70:=aN (ae Bn (ae mU (aj PG))) abX (by kernel_rfl)
theorem abY (n) (a0):Ae n a0 = (uQ a0).bind fun r0=> bif !r0.1 then some ([],()) else (j_ (a0,(0:Int))).bind fun r1=> some (r1.1,()):=by kernel_rfl
def D9:TC:=
 (zS [aZ 4] (zQ (zS [tO 6 0 6,tO 8 1 8,tK 10 7 9] (zC 10 (zS [aZ 4] .ret) .skip)) (zQ (.join [] 67106864 (some [⟨4,[.b],false⟩]) (zS [ai 11 0,jR 12 11] (.block 0 (.loop [⟨13,[.i .i64],false⟩] 67100720 (zS [eD 14 13 12] (zQ (zC 14 .skip (.exit 0)) (zQ (.block 1 (zS [ai 15 13,ai 5 15] (zS [cB 16 0 5,cB 20 1 5,ku 18 16 17 1,ku 22 20 21 1,tK 24 19 23] (zC 24 (zS [aZ 4] .ret) .skip)))) (zR [l7 25 13])))))))) (zS [gH 4] .ret))))
def PS:aI:=⟨[.rd false dF,.rd false dF],(.one false [.d])⟩
def D_:aH:=aA []
def Ea (n:Nat):List Int × List (Int)->Option ((Bool) × Unit):=aC n D_ D9 [[.sl [.i .i64]],[.sl [.i .i64]]] [.b] [] [4] .no
def Eb:=Ea BIG
def PT:TSp:=⟨PS,[[.sl [.i .i64]],[.sl [.i .i64]]],[.b],[],Ou.j .no,Eb⟩
theorem adY:aM PG D_ 147 PS (D9.ht 26) .no=some (D9.wc D_,[4]):=by kernel_rfl
theorem abZ:PT.Ok PG 147:=aN (aj PG) adY (by kernel_rfl)
theorem adZ (n) (a0) (a1):Ea n (a0,a1) = bif !decide ((a0.length:Int)=(a1.length:Int)) then some (false,()) else (aJ n (X:=Int) (B:=(Unit) ⊕ (Bool)) (fun self1 x0=> bif decide (x0<(a0.length:Int)) then bnd a0.length x0 fun n2=> a0[n2]?.bind fun y3=> bnd a1.length x0 fun n4=> a1[n4]?.bind fun y5=> bif !decide (y3=y5) then some (Sum.inr false) else self1 (IntKind.wrap .i64 (x0+(1:Int))) else some (Sum.inl ())) (0:Int):Option ((Unit) ⊕ (Bool))).bind fun y=>match y with | .inl x6=> some (true,()) | .inr x6=> some (x6,()):=by kernel_rfl
def IJ:TC:=
 (zS [iK 1 0] (zQ (.seq (.join [⟨12,[.b],false⟩] 8184 none (zR [fK 3 1 0 3,nH 5 48 4 3,iH 6 5,ai 7 6,vW 8 4,zGe 9 1 1 8 2 4,XO 146 9 10 10 4,qN 11 10 4 7])) (zC 12 (zS [aZ 2] .ret) .skip)) (zQ (.join [⟨2,[.b],false⟩] 8589926404 none (zR [Kk 13 1 3 4,dX 15 83 14,ai 16 15,vW 17 3,AC 18 17 3,w9 19 1 1 18 3,vW 20 3,zGe 21 1 3 20 4 3,yK 71 19 21 22 22 3,eZ 23 22 3,Ti 24 10 1 6,ko 27 10,zGj 28 1 1 27 2 10,zEv 70 28 29 29 10,kR 147 26 29 30 30 10,AO 23 30 31 31 3 16,ai 2 32])) .ret)))
def UM:aI:=⟨[.rd true Jj],(.one false [.d])⟩
def IK:aH:=aA [(48,lm),(146,Ab),(83,PR),(71,Dv),(70,Af),(147,PT)]
def IL (n:Nat):mJ->Option ((Bool) × Unit):=aC n IK IJ [gF] [.b] [] [2] .no
def xQ:=IL BIG
def UN:TSp:=⟨UM,[gF],[.b],[],Ou.j .no,xQ⟩
theorem ahZ:aM PG IK 63 UM (IJ.ht 33) .no=some (IJ.wc IK,[2]):=by kernel_rfl
theorem ad1:UN.Ok PG 63:=aN (ae jW (ae Bn (ae abW (ae MC (ae JA (ae abZ (aj PG))))))) ahZ (by kernel_rfl)
theorem ah0 (n) (a0):IL n a0 = ((fq (a0.1,(1:Int),(3:Int))).bind fun r0=> bif !r0.1 then some true else (uQ (a0.2.1,a0.2.2.1)).bind fun r1=> some !r1.1:Option (Bool)).bind fun x2=> bif x2 then some (false,()) else ((D8 a0.2.2.2).bind fun r3=> bif r3.1 then some true else (vC (a0.2.1,a0.2.2.2)).bind fun r4=> bif r4.1 then (mV (a0.2.1,a0.2.2.1)).bind fun r5=> (Eb (a0.2.2.2.2.2.2,r5.1)).bind fun r6=> some r6.1 else some false:Option (Bool)).bind fun x7=> some (x7,()):=by kernel_rfl
def IM:TC:=
 (zS [bW 1 0,EG 2 1000000003] (zS [fK 3 1 0 3,fK 5 1 1 5,zJa 7 6,[o5 (.build bv [(0,.t 4),(1,.t 7)]) 8 7],dW 2 8 2 8] .ret))
def UO:aI:=⟨[.rd true qa],(.one true qa)⟩
def IP:aH:=aA []
def xR (n:Nat):bK->Option (bK × Unit):=aC n IP IM [bv] bv [] [2] .no
def sG:=xR BIG
def IQ:TSp:=⟨UO,[bv],bv,[],Ou.j .no,sG⟩
theorem ah1:aM PG IP 148 UO (IM.ht 9) .no=some (IM.wc IP,[2]):=by kernel_rfl
theorem PU:IQ.Ok PG 148:=aN (aj PG) ah1 (by kernel_rfl)
theorem UQ (n) (a0):xR n a0 = bif decide (a0.2.length<=4294967296) then some (a0,()) else none:=by kernel_rfl
def wQ:TC:=
 (zS [bW 1 0,Jl 2 1000000003] (zS [fK 3 1 2 3,dX 5 132 4,fK 6 1 3 6,dX 8 72 7,d_ 9,AJ 5 2 9 5,d_ 10,AJ 8 3 10 8] (zS [nY 11 1 4 2 2 1] .ret)))
def JB:aI:=⟨[.rd true Az],(.one true Az)⟩
def wR:aH:=aA [(132,su),(72,vo)]
def wS (n:Nat):iC->Option (iC × Unit):=aC n wR wQ [fQ] fQ [] [2] .no
def jF:=wS BIG
def wT:TSp:=⟨JB,[fQ],fQ,[],Ou.j .no,jF⟩
theorem Y9:aM PG wR 66 JB (wQ.ht 12) .no=some (wQ.wc wR,[2]):=by kernel_rfl
theorem E9:wT.Ok PG 66:=aN (ae wL (ae zK (aj PG))) Y9 (by kernel_rfl)
theorem Y_ (n) (a0):wS n a0 = (mR a0.2.2.1).bind fun r0=> (jf a0.2.2.2).bind fun r1=> some ((a0.1,a0.2.1,r0.1,r1.1),()):=by kernel_rfl
def Ag:TC:=
 (zS [bW 1 0,zBE 2 1000000003] (zS [fK 3 1 0 3,d_ 5,Jk 6 1 1 5 2,dX 7 148 6,d_ 8,Jk 9 1 3 8 4,dX 10 66 9,[⟨false,[],[],.det 3 (.build gF [(0,.t 4),(1,.t 7),(3,.t 10)]),[11,7,10],(some 11),none⟩],dW 2 11 2 11] .ret))
def MU:aI:=⟨[.rd true Jj],(.one true Jj)⟩
def Ah:aH:=aA [(148,IQ),(66,wT)]
def Ai (n:Nat):mJ->Option (mJ × Unit):=aC n Ah Ag [gF] gF [] [2] .no
def Aj:=Ai BIG
def MV:TSp:=⟨MU,[gF],gF,[],Ou.j .no,Aj⟩
theorem ab0:aM PG Ah 65 MU (Ag.ht 12) .no=some (Ag.wc Ah,[2]):=by kernel_rfl
theorem Za:MV.Ok PG 65:=aN (ae PU (ae E9 (aj PG))) ab0 (by kernel_rfl)
theorem ab1 (n) (a0):Ai n a0 = (sG (a0.2.1,a0.2.2.1)).bind fun r0=> (jF a0.2.2.2).bind fun r1=> some ((a0.1,r0.1.1,r0.1.2,r1.1),()):=by kernel_rfl
def Ec:TC:=
 (zS [bW 4 1,lG 6 1000000007,aZ 7] (zS [bN 15,kQ 16 15,XP 17 0 0 16 2,ai 18 2,fJ 19 154 17 18,bV 19 8 19] (zS [eU 20 8,Tt 21 4 0 20 8 1,ai 9 24] (zQ (.join [⟨9,[.i .i64],false⟩] 35184338534912 none (zS [eU 25 8,eU 26 8,eU 32 8,eU 33 8,Tt 27 4 1 26 8 1,fJ 31 197 25 30,Tt 34 4 0 33 8 1,fJ 38 197 32 37,eD 39 31 38] (zC 39 (zR [eU 40 8,Tt 41 4 1 40 8 1,ai 9 44]) .skip))) (zS [zJj 45 2,[o1 47 (.data .min [.t 46,kD 4])],ai 10 47] (zQ (.join [⟨0,bv,false⟩] 1237940039285098799922419713 none (zS [Jo 48 0 1,jR 52 51] (.block 0 (.loop [⟨0,bv,false⟩,⟨53,[.i .i64],false⟩] 1237940039278624875458205697 (zS [eD 54 53 52] (zQ (zC 54 .skip (.exit 0)) (zQ (.join [⟨0,bv,false⟩] 618970019606661340430604289 none (.block 1 (zS [ai 55 53,ai 11 55] (zS [Jo 56 0 1,ai 60 11,qb 61 59 60,kQ 12 61] (zQ (.join [⟨84,[.b],false⟩] 38685621615982115163209728 none (zR [kQ 62 12,kr 63 62,zJf 65 0 1 4 3 64,ai 66 65,zIC 67 12 4,zIC 68 67 4,yL 69 68 4,[o2 70 (.load 0 [(1,4)] 2 (.t 69) 1 false) 4 true],eQ 71 2 4,Tq 72 70 71 4 66,Oy 8 75 75 12,zIC 76 12 12,zIC 77 76 12,yL 78 77 12,[o2 79 (.load 0 [(1,4)] 0 (.t 78) 1 false) 12 true],mH 80 75 79 12,w_ 81 8 1 80 12,eQ 82 9 12,XM 83 81 82 12,lF 74 83 84])) (zC 84 (zR [kQ 85 12,ai 86 10,kr 87 85,[o4 1 [0,59] (.store 0 [(1,4)] 2 (.t 88) (.t 86))]]) .skip)))))) (zR [l7 89 53])))))))) (zQ (.join [⟨0,bv,false⟩,⟨6,[.i .i64,.i .i64],false⟩] 1496577676626844588240572030761434526747400024907969 (some [⟨6,[.i .i64,.i .i64],false⟩,⟨7,[.b],false⟩,⟨0,bv,false⟩]) (zS [Jo 90 0 1,jR 94 93] (.block 2 (.loop [⟨0,bv,false⟩,⟨6,[.i .i64,.i .i64],false⟩,⟨95,[.i .i64],false⟩] 1496577676626844588240543558140530963001077345050817 (zS [eD 96 95 94] (zQ (zC 96 .skip (.exit 2)) (zQ (.join [⟨0,bv,false⟩,⟨6,[.i .i64,.i .i64],false⟩] 748288838313422294120128178025708377388650374127809 (some [⟨6,[.i .i64,.i .i64],false⟩,⟨7,[.b],false⟩,⟨0,bv,false⟩]) (.block 3 (zS [ai 97 95,ai 13 97] (zS [Jo 98 0 1,ai 102 13,qb 103 101 102,kQ 14 103] (zQ (.seq (.join [⟨137,[.b],false⟩] 348449143706758576982843927586183397244928 none (zR [kQ 104 14,kr 105 104,zJf 107 0 1 4 3 106,ai 108 107,zJb 109 14 4,zJb 110 109 4,AC 111 110 4,[o2 112 (.load 0 [(1,4)] 2 (.t 111) 1 false) 4 false],eZ 113 2 4,EM 114 112 113 4 108,ai 116 115,zHq 8 117 117 12,zJb 118 14 12,zJb 119 118 12,AC 120 119 12,[o2 121 (.load 0 [(1,4)] 0 (.t 120) 1 false) 12 false],zEE 122 117 121 12,Td 123 8 1 122 12,eZ 124 9 12,zGb 125 123 124 12,eZ 126 125 12,Oy 8 127 127 22,zIC 128 14 22,zIC 129 128 22,yL 130 129 22,[o2 131 (.load 0 [(1,4)] 1 (.t 130) 1 false) 22 true],mH 132 127 131 22,w_ 133 8 1 132 22,eQ 134 9 22,zEz 135 133 134 22,AO 126 135 136 136 12 116])) (zC 137 (.exit 3) .skip)) (zQ (zS [eU 138 8,kQ 139 14,eU 145 8,kQ 146 14,kr 140 139,zEx 142 0 1 4 141,EL 143 138 142 8 1,kr 147 146,zJf 149 0 1 4 1 148,EL 150 145 149 8 1,tK 152 144 151] (zC 152 (zS [kQ 153 14,kr 154 153,zEb 0 101 0 1 4 3 155] (zS [kQ 156 14,kQ 160 14,kr 157 156,zEx 159 0 1 4 158,kr 161 160,zJf 163 0 1 4 1 162,AA 164 159 163,df 6 6 164,gH 7] .ret)) .skip)) (zR [kQ 165 14,ai 166 10,kr 167 165,[o4 1 [0,101] (.store 0 [(1,4)] 2 (.t 168) (.t 166))]]))))))) (zR [l7 169 95])))))))) (zS [zGC 170,df 6 6 170,aZ 7] .ret))))))))
def PV:aI:=⟨[.mp qa,.rd true [.d,.d],.rd false [.d]],(.tup [(true,2),(false,1)] [.d,.d,.d])⟩
def Ee:aH:=aA [(154,lM),(197,Rv)]
def Ef (n:Nat):bK × aF × Int->Option ((Int × Int × Bool) × Int × List fF):=aC n Ee Ec [bv,[.i .i64,.i .i64],[.i .i64]] [.i .i64,.i .i64,.b] bv [6,7] (.mp 0)
def lN:=Ef BIG
def PW:TSp:=⟨PV,[bv,[.i .i64,.i .i64],[.i .i64]],[.i .i64,.i .i64,.b],bv,Ou.j (.mp 0),lN⟩
theorem ad2:aM PG Ee 151 PV (Ec.ht 171) (.mp 0)=some (Ec.wc Ee,[6,7]):=by kernel_rfl
theorem ab2:PW.Ok PG 151:=aN (ae mU (ae YD (aj PG))) ad2 (by kernel_rfl)
theorem ad3 (n) (a0) (a1) (a2):Ef n (a0,a1,a2) =
 (j_ (a0,a2)).bind fun r0=>
 bnd r0.1.length a1.1 fun n1=>
 r0.1[n1]?.bind fun y2=>
 (bnd r0.1.length a1.2 fun n3=>
  r0.1[n3]?.bind fun y4=>
  (Aa (r0.1,y4)).bind fun r5=>
  bnd r0.1.length a1.1 fun n6=>
  r0.1[n6]?.bind fun y7=>
  (Aa (r0.1,y7)).bind fun r8=>
  bif decide (r5.1<r8.1) then
   bnd r0.1.length a1.2 fun n9=>
   r0.1[n9]?.bind fun y10=>
   some y10
  else some y2:Option (Int)).bind fun x11=>
 (aJ n (X:=bK × Int) (B:=bK) (fun self13 x12=>
  bif decide (x12.2<(a0.2.length:Int)) then
   (bnd x12.1.2.length x12.2 fun n14=>
    (x12.1.2[n14]?.bind fun y15=>
     bif y15.2.2.2 then
      x12.1.2[n14]?.bind fun y16=>
      bif decide (y16.2.2.1=a2) then
       x12.1.2[n14]?.bind fun y17=>
       bnd r0.1.length y17.1 fun n18=>
       r0.1[n18]?.bind fun y19=>
       some (decide (y19=x11))
      else some false
     else some false:Option (Bool)).bind fun x20=>
    bif x20 then
     x12.1.2[n14]?.bind fun y21=>
     some (x12.1.1,x12.1.2.set n14 (y21.1,y21.2.1,(if (4:Int)<(IntKind.wrap .i64 (a2+(1:Int))) then (4:Int) else (IntKind.wrap .i64 (a2+(1:Int)))),y21.2.2.2))
    else some x12.1:Option (bK)).bind fun x22=>
   self13 (x22,IntKind.wrap .i64 (x12.2+(1:Int)))
  else some x12.1) (a0,(0:Int)):Option (bK)).bind fun x23=>
 (aJ n (X:=bK × aF × Int) (B:=(bK × aF) ⊕ (aF × Bool × bK)) (fun self25 x24=>
  bif decide (x24.2.2<(x23.2.length:Int)) then
   (bnd x24.1.2.length x24.2.2 fun n26=>
    (x24.1.2[n26]?.bind fun y27=>
     bif y27.2.2.2 then
      some true
     else x24.1.2[n26]?.bind fun y28=>
     bif !decide (y28.2.2.1=a2) then
      some true
     else x24.1.2[n26]?.bind fun y29=>
     bnd r0.1.length y29.1 fun n30=>
     r0.1[n30]?.bind fun y31=>
     bif !decide (y31=x11) then
      x24.1.2[n26]?.bind fun y32=>
      bnd r0.1.length y32.2.1 fun n33=>
      r0.1[n33]?.bind fun y34=>
      some (!decide (y34=x11))
     else some false:Option (Bool)).bind fun x35=>
    bif x35 then
     some (Sum.inl (x24.1,x24.2.1))
    else x24.1.2[n26]?.bind fun y36=>
    bnd r0.1.length y36.1 fun n37=>
    r0.1[n37]?.bind fun y38=>
    x24.1.2[n26]?.bind fun y39=>
    bnd r0.1.length y39.2.1 fun n40=>
    r0.1[n40]?.bind fun y41=>
    bif !decide (y38=y41) then
     x24.1.2[n26]?.bind fun y42=>
     Option.bind (x24.1.2.set n26 (y42.1,y42.2.1,y42.2.2.1,true))[n26]? fun y43=>
     Option.bind (x24.1.2.set n26 (y42.1,y42.2.1,y42.2.2.1,true))[n26]? fun y44=>
     some (Sum.inr ((y43.1,y44.2.1),true,(x24.1.1,x24.1.2.set n26 (y42.1,y42.2.1,y42.2.2.1,true))))
    else x24.1.2[n26]?.bind fun y45=>
    some (Sum.inl ((x24.1.1,x24.1.2.set n26 (y45.1,y45.2.1,(if (4:Int)<(IntKind.wrap .i64 (a2+(1:Int))) then (4:Int) else (IntKind.wrap .i64 (a2+(1:Int)))),y45.2.2.2)),x24.2.1)):Option ((bK × aF) ⊕ (aF × Bool × bK))).bind fun y=>match y with
   | .inl x46=>
    self25 (x46.1,x46.2,IntKind.wrap .i64 (x24.2.2+(1:Int)))
   | .inr x46=>
    some (Sum.inr (x46.1,x46.2.1,x46.2.2))
  else some (Sum.inl (x24.1,x24.2.1))) (x23,((0:Int),(0:Int)),(0:Int)):Option ((bK × aF) ⊕ (aF × Bool × bK))).bind fun y=>match y with
 | .inl x47=>
  some (((0:Int),(0:Int),false),x47.1)
 | .inr x47=>
  some ((x47.1.1,x47.1.2,x47.2.1),x47.2.2):=by kernel_rfl
def IR:TC:=
 (zS [bW 2 0,bW 3 1,EG 4 1000000005,lG 5 1000000006,aZ 6,aZ 7] (zQ (.seq (.join [⟨24,[.b],false⟩] 33521664 none (zR [vY 15 2 2 146,kI 17 16,AB 19 2 2 3,XO 150 19 20 20 3,OG 21 3 2 3 149 20 3,qN 23 22 3 18])) (zC 24 (zS [zBC 25,zGC 26,dW 4 25 4 25,df 5 5 26,aZ 6,aZ 7] .ret) .skip)) (zS [bF 27 2 0,zBD 29 28,EG 8 1000000009,dW 8 29 8 29] (zS [Ow 9 1000000010] (zQ (.join [⟨9,kH,false⟩,⟨8,bv,false⟩] 144115187002116864 none (zS [bF 30 2 1,jR 32 31] (.block 0 (.loop [⟨9,kH,false⟩,⟨8,bv,false⟩,⟨33,[.i .i64],false⟩] 144115179485924096 (zS [eD 34 33 32] (zQ (zC 34 .skip (.exit 0)) (zQ (.join [⟨9,kH,false⟩,⟨8,bv,false⟩] 72057559678192384 none (.block 1 (zS [jq 35 31 33 4 4,Ow 11 1000000012,df 11 11 36] (zQ (.seq (.join [⟨48,[.b],false⟩] 562812514467840 none (zR [kT 37 11 0 3 0,mI 41 38 40,qf 42 41 5 11 1 5,tN 45 5 3 1 5,XM 47 44 46 5,lF 42 47 48])) (zC 48 (zS [dw 49 11 4,df 9 9 49] (.exit 1)) .skip)) (zR [jr 50 8 1,dw 52 11 4,zGr 53 52,OH 51 51 53 54 51 51 8 54 8 8 1]))))) (zR [l7 56 33])))))))) (zQ (.join [⟨8,bv,false⟩,⟨4,bv,false⟩,⟨5,[.i .i64,.i .i64],false⟩] 75557719610726247592432 (some [⟨4,bv,false⟩,⟨5,[.i .i64,.i .i64],false⟩,⟨6,[.b],false⟩,⟨7,[.b],false⟩]) (zS [bF 57 9 2,ai 12 58] (.block 2 (.loop [⟨8,bv,false⟩,⟨4,bv,false⟩,⟨5,[.i .i64,.i .i64],false⟩,⟨12,[.i .i64],false⟩] 75557287265162020024816 (zQ (.seq (.join [⟨64,[.b],false⟩] 36317027395115679744 none (zR [ai 59 12,zGE 60 59,qf 61 60 2 9 3 2,lF 61 63 64])) (zC 64 .skip (.exit 2))) (zQ (.block 3 (zS [EP 68 3 2 12,zIe 151 8 68 69 70 8 70,bV 70 67 70,[o1 71 (.ext 67 0 2)],zDc 72 67 2,lG 13 1000000014,df 13 13 71,ai 14 72] (zS [ai 73 14] (zC 73 (zS [gP 74 8 2,zHe 4 8 13 75 75,vV 74 4 74 4 74 74 8,df 5 5 75,gH 6,gH 7] .ret) .skip)))) (zR [ai 65 12,tH 66 65,ai 12 66]))))))) (zS [gP 76 8 2,zGC 77,vV 76 4 76 4 76 76 8,df 5 5 77,aZ 6,gH 7] .ret)))))))
def UR:aI:=⟨[.rd true qa,.rd true [.d,.d]],(.tup [(true,2),(true,2),(false,1),(false,1)] [.d,.sl (.own none) [.d,.d,.d,.d],.d,.d,.d,.d])⟩
def IU:aH:=aA [(146,Ab),(150,sF),(149,Io),(151,PW)]
def IV (n:Nat):bK × aF->Option (Zt8 × Unit):=aC n IU IR [bv,[.i .i64,.i .i64]] Ty6 [] [4,5,6,7] .no
def iZ:=IV BIG
def IW:TSp:=⟨UR,[bv,[.i .i64,.i .i64]],Ty6,[],Ou.j .no,iZ⟩
theorem ah2:aM PG IU 67 UR (IR.ht 78) .no=some (IR.wc IU,[4,5,6,7]):=by kernel_rfl
theorem PY:IW.Ok PG 67:=aN (ae Bn (ae vE (ae PN (ae ab2 (aj PG))))) ah2 (by kernel_rfl)
theorem ah3 (n) (a0) (a1):IV n (a0,a1) = ((uQ a0).bind fun r0=> bif !r0.1 then some true else (iY a0).bind fun r1=> (xP (r1.1,a1)).bind fun r2=> some !r2.1:Option (Bool)).bind fun x3=> bif x3 then some (((0:Int),[],(0:Int),(0:Int),false,false),()) else (aJ n (X:=fF × bK × Int) (B:=fF × bK) (fun self5 x4=> bif decide (x4.2.2<(a0.2.length:Int)) then (bnd a0.2.length x4.2.2 fun n6=> a0.2[n6]?.bind fun y7=> (bif decide (y7.1=a1.1) then some (decide (y7.2.1=a1.2)) else some false:Option (Bool)).bind fun x8=> bif x8 then some (y7,x4.2.1) else bif decide (x4.2.1.2.length+[y7].length<=4294967296) then some (x4.1,(x4.2.1.1,x4.2.1.2++[y7])) else none:Option (fF × bK)).bind fun x9=> self5 (x9.1,x9.2,IntKind.wrap .i64 (x4.2.2+(1:Int))) else some (x4.1,x4.2.1)) (((0:Int),(0:Int),(0:Int),false),(a0.1,[]),(0:Int)):Option (fF × bK)).bind fun x10=> (aJ n (X:=bK × bK × aF × Int) (B:=(bK × bK × aF) ⊕ (bK × aF × Bool × Bool)) (fun self12 x11=> (bif decide ((0:Int)<=x11.2.2.2) then some x10.1.2.2.2 else some false:Option (Bool)).bind fun x13=> bif x13 then (lN (x11.1,a1,x11.2.2.2)).bind fun r14=> bif r14.1.2.2 then some (Sum.inr (r14.2,(r14.1.1,r14.1.2.1),true,true)) else self12 (r14.2,x11.2.1,x11.2.2.1,IntKind.wrap .i64 (x11.2.2.2-(1:Int))) else some (Sum.inl (x11.1,x11.2.1,x11.2.2.1))) (x10.2,((0:Int),[]),((0:Int),(0:Int)),x10.1.2.2.1):Option ((bK × bK × aF) ⊕ (bK × aF × Bool × Bool))).bind fun y=>match y with | .inl x15=> some ((x15.1.1,x15.1.2,(0:Int),(0:Int),false,true),()) | .inr x15=> some ((x15.1.1,x15.1.2,x15.2.1.1,x15.2.1.2,x15.2.2),()):=by kernel_rfl
def Rz:TC:=
 (zS [bW 1 0,vX 2] (zS [d_ 3,Jk 4 1 1 3 2,dX 5 150 4,[o5 (.ext 5 1 1) 6 5],bV 6 2 6] .ret))
def ab3:aI:=⟨[.rd true Jj],(.one false fE)⟩
def RA:aH:=aA [(150,sF)]
def RB (n:Nat):mJ->Option ((List aF) × Unit):=aC n RA Rz [gF] [.sl [.i .i64,.i .i64]] [] [2] .no
def IY:=RB BIG
def ab4:TSp:=⟨ab3,[gF],[.sl [.i .i64,.i .i64]],[],Ou.j .no,IY⟩
theorem amv:aM PG RA 152 ab3 (Rz.ht 7) .no=some (Rz.wc RA,[2]):=by kernel_rfl
theorem akz:ab4.Ok PG 152:=aN (ae vE (aj PG)) amv (by kernel_rfl)
theorem amw (n) (a0):RB n a0 = (iY (a0.2.1,a0.2.2.1)).bind fun r0=> some (r0.1.2,()):=by kernel_rfl
def pI:TC:=
 (zS [vX 4] (zS [vX 5] (zQ (.join [⟨0,gF,false⟩,⟨5,[.sl [.i .i64,.i .i64]],false⟩] 2251799813685153 none (zS [bN 12,kQ 13 12,XP 14 0 0 13 7,dX 15 152 14,jR 16 15] (.block 0 (.loop [⟨0,gF,false⟩,⟨5,[.sl [.i .i64,.i .i64]],false⟩,⟨17,[.i .i64],false⟩] 2251799813574561 (zS [eD 18 17 16] (zQ (zC 18 .skip (.exit 0)) (zQ (.join [⟨0,gF,false⟩,⟨5,[.sl [.i .i64,.i .i64]],false⟩] 1125899906322337 none (.block 1 (zS [jq 19 15 17 2 2,lG 7 1000000008,df 7 7 20] (zQ (.join [⟨30,[.b],false⟩] 2145386496 none (zR [AP 21 7 0 1,mI 24 22 23,ai 25 24,iJ 26 4 7 1 4,eZ 28 1 4,zDs 29 27 28 4,tC 25 29 30])) (zC 30 (zS [bN 32,[⟨false,[],[1000000009,1000000010],.det 1 (.same 32),[33],(some 33),none⟩],zLp 1000000009 1000000010 33 34 34 0 1 2,zHe 1000000009 1000000010 7 36 36,zKq 1000000009 1000000010 67 35 36 37 37 31 31 0 2,zLn 1000000009 1000000010 31 2 2 39 39 4 5,zHo 1000000010 8 1000000009 8,zHp 1000000009 9 1000000010 9,dW 8 38 8 38,df 9 9 39,ai 10 40,ai 11 41] (zS [bN 42,gP 43 8 2,kr 44 42,zJg 43 0 45 43 0 43 43 8 35] (zR [bV 5 46 5,dw 47 7 2,EN 48 47 46 46 5]))) .skip))))) (zR [l7 50 17])))))))) (zS [qd 5 51 5 4] .ret))))
def Ak:aI:=⟨[.mp Jj,.rd false [.d]],(.one false fE)⟩
def pJ:aH:=aA [(152,ab4),(67,IW)]
def pK (n:Nat):mJ × Int->Option ((List aF) × Int × Int × List fF × Int × Bool × List aF × List Int):=aC n pJ pI [gF,[.i .i64]] [.sl [.i .i64,.i .i64]] gF [4] (.mp 0)
def lq:=pK BIG
def Al:TSp:=⟨Ak,[gF,[.i .i64]],[.sl [.i .i64,.i .i64]],gF,Ou.j (.mp 0),lq⟩
theorem RF:aM PG pJ 68 Ak (pI.ht 52) (.mp 0)=some (pI.wc pJ,[4]):=by kernel_rfl
theorem Og:Al.Ok PG 68:=aN (ae akz (ae PY (aj PG))) RF (by kernel_rfl)
theorem RG (n) (a0) (a1):pK n (a0,a1) = ((IY a0).bind fun r0=> aJ n (X:=mJ × (List aF) × Int) (B:=mJ × (List aF)) (fun self2 x1=> bif decide (x1.2.2<(r0.1.length:Int)) then (bnd r0.1.length x1.2.2 fun n3=> r0.1[n3]?.bind fun y4=> (bif decide (y4.1=a1) then some true else some (decide (y4.2=a1)):Option (Bool)).bind fun x5=> bif x5 then (iZ ((x1.1.2.1,x1.1.2.2.1),y4)).bind fun r6=> bif decide (x1.2.1.length+[y4].length<=4294967296) then some ((x1.1.1,r6.1.1,r6.1.2.1,x1.1.2.2.2),x1.2.1++[y4]) else none else some (x1.1,x1.2.1):Option (mJ × (List aF))).bind fun x7=> self2 (x7.1,x7.2,IntKind.wrap .i64 (x1.2.2+(1:Int))) else some (x1.1,x1.2.1)) (a0,[],(0:Int)):Option (mJ × (List aF))).bind fun x8=> some (x8.2,x8.1):=by kernel_rfl
def MW:TC:=
 (zS [bW 2 0,bW 3 1,EG 4 1000000005,aZ 5] (zQ (zS [zGt 1000000007 2 12 12,zGu 1000000007 150 12 13 13,zGt 1000000007 3 14 14,zGv 1000000007 198 13 14 15 15,zLy 1000000007 15 11 15 11,Ta 6 1000000007,vZ 6 16 6 16] (zQ (.join [⟨24,[.b],false⟩] 33292288 none (zR [vY 18 2 2 146,kI 20 19,eZ 22 7 3,qN 23 22 3 21])) (zC 24 (zS [zBC 25,dW 4 25 4 25,aZ 5] .ret) .skip))) (zS [dw 26 2 2,zGd 27 154 26,bV 27 8 27] (zS [bD 9] (zQ (.join [⟨9,[.i .i64],false⟩] 4503599358935552 none (.block 0 (.loop [⟨9,[.i .i64],false⟩] 4503599358935552 (zQ (.seq (.join [⟨49,[.b],false⟩] 1125899638407168 none (zR [OI 28 9 2 1 31,qf 33 32 5 2 1 5,eQ 36 9 5,mH 37 35 36 5,yL 38 37 5,w_ 39 35 4 38 5,tN 40 5 2 1 5,eQ 42 9 5,mH 43 41 42 5,yL 44 43 5,zGq 45 41 4 1 44 5,[o2 46 (.build [.i .i64,.i .i64] [(0,.t 39),(1,.t 45)]) 5 true],zHw 47 3 2 5,kR 192 46 47 48 48 5,lF 33 48 49])) (zC 49 .skip (.exit 0))) (.block 1 (zR [dZ 50 9 9])))))) (zS [ai 56 9,Jm 1000000011 52 52 2 0,Jm 1000000011 54 54 2 1,[⟨false,[],[1000000011],.det 1 (.res 55 none (some (.t 56))),[57],(some 57),none⟩,⟨false,[],[1000000011],.det 1 (.build bv [(0,.t 53),(1,.t 57)]),[58],(some 58),none⟩],zGu 1000000011 148 58 59 59,EG 10 1000000011,dW 10 59 10 59] (zS [eU 66 8,eU 71 8,ai 82 9,EH 1000000003 60 60,[⟨false,[],[1000000003],.det 1 (.load 10 [] 1 (.t 60) 1 true),[61],(some 61),none⟩],kT 62 3 0 3 1,Tt 67 3 0 66 8 1,Tt 72 3 1 71 8 1,tK 76 70 75,[o5 (.build kH [(0,.t 63),(1,.t 65),(2,kO 0),(3,.t 76)]) 77 1000000003],zGr 78 77,zBs 61 61 78 79 61 61 10 79,zLx 1000000003 10 80 80 2 1,[⟨false,[],[1000000003,10],.det 1 (.res 81 (some (.t 82)) none),[83],(some 83),none⟩],vU 79 83 84 79,Tg 85 10 84 61 10 1 84] (zS [gP 86 10 2,vV 86 4 86 4 86 86 10,gH 5] .ret))))))))
def YE:aI:=⟨[.rd true qa,.rd true [.d,.d]],(.tup [(true,2),(false,1)] Ct5)⟩
def MX:aH:=aA [(150,sF),(198,UH),(146,Ab),(154,lM),(192,Hy),(148,IQ)]
def MZ (n:Nat):bK × aF->Option (Zt9 × Unit):=aC n MX MW [bv,[.i .i64,.i .i64]] VP [] [4,5] .no
def ql:=MZ BIG
def YF:TSp:=⟨YE,[bv,[.i .i64,.i .i64]],VP,[],Ou.j .no,ql⟩
theorem akA:aM PG MX 153 YE (MW.ht 87) .no=some (MW.wc MX,[4,5]):=by kernel_rfl
theorem ah4:YF.Ok PG 153:=aN (ae vE (ae adS (ae Bn (ae mU (ae LZ (ae PU (aj PG))))))) akA (by kernel_rfl)
theorem akB (n) (a0) (a1):MZ n (a0,a1) = (iY a0).bind fun r0=> (Iu (r0.1,a1)).bind fun r1=> ((uQ a0).bind fun r2=> bif !r2.1 then some true else some !r1.1.2.2:Option (Bool)).bind fun x3=> bif x3 then some (((0:Int),[],false),()) else (j_ (a0,(0:Int))).bind fun r4=> (aJ n (X:=Int) (B:=Int) (fun self6 x5=> (bif decide (x5<(a0.2.length:Int)) then bnd a0.2.length x5 fun n7=> a0.2[n7]?.bind fun y8=> bnd a0.2.length x5 fun n9=> a0.2[n9]?.bind fun y10=> (uL ((y8.1,y10.2.1),a1)).bind fun r11=> some r11.1 else some false:Option (Bool)).bind fun x12=> bif x12 then self6 (IntKind.wrap .i64 (x5+(1:Int))) else some x5) (0:Int):Option (Int)).bind fun x13=> bif decide (0<=x13) then bif decide (0<=(Int.toNat x13)/\(Int.toNat x13)<=a0.2.length) then (sG (a0.1,List.take ((Int.toNat x13)-0) (List.drop 0 a0.2))).bind fun r14=> bnd r4.1.length a1.1 fun n15=> r4.1[n15]?.bind fun y16=> bnd r4.1.length a1.2 fun n17=> r4.1[n17]?.bind fun y18=> bif decide (r14.1.2.length+([(a1.1,a1.2,(0:Int),!decide (y16=y18))]).length<=4294967296) then bif decide (0<=x13) then bif decide ((Int.toNat x13)<=a0.2.length/\a0.2.length<=a0.2.length) then bif decide ((r14.1.2++([(a1.1,a1.2,(0:Int),!decide (y16=y18))])).length+(List.take (a0.2.length-(Int.toNat x13)) (List.drop (Int.toNat x13) a0.2)).length<=4294967296) then some ((r14.1.1,(r14.1.2++([(a1.1,a1.2,(0:Int),!decide (y16=y18))]))++(List.take (a0.2.length-(Int.toNat x13)) (List.drop (Int.toNat x13) a0.2)),true),()) else none else none else none else none else none else none:=by kernel_rfl
def sH:TC:=
 (zS [aZ 4] (zS [gH 5] (zQ (.join [⟨0,gF,false⟩,⟨5,[.b],false⟩] 34359738273 none (zS [ai 10 1,jR 11 10] (.block 0 (.loop [⟨0,gF,false⟩,⟨5,[.b],false⟩,⟨12,[.i .i64],false⟩] 34359735201 (zS [eD 13 12 11] (zQ (zC 13 .skip (.exit 0)) (zQ (.join [⟨0,gF,false⟩,⟨5,[.b],false⟩] 17179853729 none (.block 1 (zS [jq 14 10 12 2 2,lG 7 1000000008,df 7 7 15] (zS [bN 17,[⟨false,[],[1000000009],.det 1 (.same 17),[18],(some 18),none⟩],zHb 1000000009 18 19 19,[⟨false,[],[1000000009],.det 1 (.load 0 [] 1 (.t 19) 2 true),[20],(some 20),none⟩],zGt 1000000009 7 21 21,zGv 1000000009 153 20 21 22 22,zLy 1000000009 22 16 22 16,EG 8 1000000009,vZ 8 23 8 23] (zQ (.join [⟨0,gF,false⟩] 1041236225 none (zS [ai 25 9] (zC 25 (zR [bN 26,gP 27 8 2,kr 28 26,zJg 27 0 29 27 0 27 27 8 20]) .skip))) (.join [⟨5,[.b],false⟩] 16106127392 none (zR [ai 30 5,Jq 31 30 9 1,kU 31 32 33 5]))))))) (zR [l7 34 12])))))))) (zS [ai 35 5,ai 4 35] .ret))))
def Bo:aI:=⟨[.mp Jj,.rd false fE],(.one false [.d])⟩
def sI:aH:=aA [(153,YF)]
def sJ (n:Nat):mJ × (List aF)->Option ((Bool) × Int × Int × List fF × Int × Bool × List aF × List Int):=aC n sI sH [gF,[.sl [.i .i64,.i .i64]]] [.b] gF [4] (.mp 0)
def l_:=sJ BIG
def Bp:TSp:=⟨Bo,[gF,[.sl [.i .i64,.i .i64]]],[.b],gF,Ou.j (.mp 0),l_⟩
theorem UT:aM PG sI 69 Bo (sH.ht 36) (.mp 0)=some (sH.wc sI,[4]):=by kernel_rfl
theorem RH:Bp.Ok PG 69:=aN (ae ah4 (aj PG)) UT (by kernel_rfl)
theorem UU (n) (a0) (a1):sJ n (a0,a1) = (aJ n (X:=mJ × Bool × Int) (B:=mJ × Bool) (fun self1 x0=> bif decide (x0.2.2<(a1.length:Int)) then (bnd a1.length x0.2.2 fun n2=> a1[n2]?.bind fun y3=> (ql ((x0.1.2.1,x0.1.2.2.1),y3)).bind fun r4=> (bif r4.1.2.2 then some (x0.1.1,r4.1.1,r4.1.2.1,x0.1.2.2.2) else some x0.1:Option (mJ)).bind fun x5=> (bif x0.2.1 then some r4.1.2.2 else some false:Option (Bool)).bind fun x6=> some (x5,x6):Option (mJ × Bool)).bind fun x7=> self1 (x7.1,x7.2,IntKind.wrap .i64 (x0.2.2+(1:Int))) else some (x0.1,x0.2.1)) (a0,true,(0:Int)):Option (mJ × Bool)).bind fun x8=> some (x8.2,x8.1):=by kernel_rfl
def Wy:TC:=
 (zS [bW 2 0,bW 3 1,zBE 4 1000000005,Jl 5 1000000006,bD 6] (zQ (.seq (.join [⟨40,[.b],false⟩] 2199023247360 none (zR [vY 13 2 7 63,kI 15 14,vW 17 3,AC 18 17 3,w9 19 2 1 18 3,OG 20 3 4 3 64 19 3,qc 22 21 3 16,EJ 25 11 3 0,XR 27 11,w9 29 2 3 28 11,zGb 30 26 29 11,eZ 31 30 11,xe 32 18 3 0,Ti 34 18 2 3,zHd 37 36 18,zEz 38 33 37 18,AO 31 38 39 39 11 24])) (zC 40 (zS [zDd 41,zEC 42,dW 4 41 4 41,dW 5 42 5 42,kg 6 1] .ret) .skip)) (zS [vY 43 2 7 65,zBE 7 1000000008,dW 7 44 7 44] (zQ (zS [bF 45 3 0,Tm 47 2 3,mI 50 46 49] (zC 50 (zS [gP 51 7 7,Kk 52 2 3 4,dX 54 66 53,vV 51 4 51 4 51 51 7,dW 5 54 5 54,bD 6] .ret) .skip)) (zS [bF 55 3 0,[o1 57 (.build fQ [(0,.t 56)])],Jl 8 1000000009,dW 8 57 8 57] (zQ (.join [⟨7,gF,false⟩,⟨8,fQ,false⟩] 1237940038997149898747420544 none (zS [bF 58 3 1] (.block 0 (zS [jD 65 59 2 64] (zC 64 (zS [zLo 1000000010 1000000011 67 67 7 1 2,zLx 1000000010 1000000011 69 69 3 2,zHh 1000000010 1000000011 70 71 71,zHi 1000000010 1000000011 70 71 72 72,zKq 1000000010 1000000011 67 68 72 73 73 66 66 0 2,zLn 1000000010 1000000011 66 2 2 75 75 4 5,zHo 1000000011 9 1000000010 9,zHp 1000000010 10 1000000011 10,dW 9 74 9 74,df 10 10 75,ai 11 76,ai 12 77] (zQ (.join [⟨7,gF,false⟩] 2115915332230780408562304 none (zS [ai 78 12] (zC 78 (zR [gP 79 9 2,d_ 80,zJg 79 7 80 79 7 79 79 9 68]) .skip))) (zR [ai 81 12,qP 82 8 8 1 81]))) (zS [jD 84 59 3 83] (zC 83 (zS [bF 85 3 3,zIj 68 7 86 87 7 87,d_ 88,Te 8 87 8 2 88 87] (zR [d_ 89,[o4 1 [8] (.store 8 [] 1 (.t 89) (.c [.b] [.bool true]))]])) (zR [bF 60 3 2,zIj 69 7 61 62 7 62,qP 63 8 8 1 62])))))))) (zS [d_ 90,XP 91 7 1 90 2,dX 92 70 91,d_ 93,Te 8 92 8 3 93 92] (zS [gP 94 8 4,dX 95 66 94,Tg 96 7 95 91 7 3 95] (zS [gP 97 7 7,zIE 4 8 98 98,vV 97 4 97 4 97 97 7,[⟨false,[98],[],.det 2 (.store 5 [] 0 .nil (.t 98)),[5,98,98,8,94],none,none⟩],bD 6] .ret)))))))))
def afA:aI:=⟨[.rd true Jj,.rd true EC],(.tup [(true,7),(true,4),(false,1)] [.d,.d,.sl (.own none) [.d,.d,.d,.d],.d,.d,.sl (.own none) [.d,.d],.sl (.own none) [.d],.d,.d,.sl (.own none) [.d,.d],.sl (.own none) [.d],.d])⟩
def Wz:aH:=aA [(63,UN),(64,H7),(65,MV),(66,wT),(67,IW),(68,Al),(69,Bp),(70,Af)]
def WB (n:Nat):mJ × lU->Option (Zt4 × Unit):=aC n Wz Wy [gF,eX] Ty3 [] [4,5,6] .no
def yg:=WB BIG
def aoC:TSp:=⟨afA,[gF,eX],Ty3,[],Ou.j .no,yg⟩
theorem aoD:aM PG Wz 14 afA (Wy.ht 99) .no=some (Wy.wc Wz,[4,5,6]):=by kernel_rfl
theorem ar9:aoC.Ok PG 14:=aN (ae ad1 (ae Pv (ae Za (ae E9 (ae PY (ae Og (ae RH (ae JA (aj PG))))))))) aoD (by kernel_rfl)
theorem aoE (n) (a0) (a1):WB n (a0,a1) = ((xQ a0).bind fun r0=> bif !r0.1 then some true else (xM (a0.2.1,a1)).bind fun r1=> bif !r1.1 then some true else bif !decide (a1.1=a0.2.2.2.1) then some (!decide (a1.1=(IntKind.wrap .i64 (a0.2.2.2.1+(1:Int))))) else some false:Option (Bool)).bind fun x2=> bif x2 then some (((0:Int),(0:Int),[],(0:Int),false,[],[],(0:Int),false,[],[],(1:Int)),()) else (Aj a0).bind fun r3=> bif decide (a1.1=a0.2.2.2.1) then (jF a0.2.2.2).bind fun r4=> some ((r3.1.1,r3.1.2.1,r3.1.2.2.1,r3.1.2.2.2.1,r3.1.2.2.2.2.1,r3.1.2.2.2.2.2.1,r3.1.2.2.2.2.2.2,r4.1.1,r4.1.2.1,r4.1.2.2.1,r4.1.2.2.2,(0:Int)),()) else (bif decide (a1.2.1=(2:Int)) then bnd a1.2.2.1.length (0:Int) fun n5=> a1.2.2.1[n5]?.bind fun y6=> (iZ ((r3.1.2.1,r3.1.2.2.1),y6)).bind fun r7=> (bif r7.1.2.2.2.2.2 then some (r3.1.1,r7.1.1,r7.1.2.1,r3.1.2.2.2) else some r3.1:Option (mJ)).bind fun x8=> some (x8,(a1.1,r7.1.2.2.2.2.2,[],[])) else bif decide (a1.2.1=(3:Int)) then (lq (r3.1,a1.2.2.2)).bind fun r9=> some (r9.2,(a1.1,true,r9.1,[])) else (l_ (r3.1,a1.2.2.1)).bind fun r10=> some (r10.2,(a1.1,r10.1,[],[])):Option (mJ × iC)).bind fun x11=> (mV (x11.1.2.1,x11.1.2.2.1)).bind fun r12=> (jF (x11.2.1,x11.2.2.1,x11.2.2.2.1,r12.1)).bind fun r13=> some ((x11.1.1,x11.1.2.1,x11.1.2.2.1,r13.1.1,r13.1.2.1,r13.1.2.2.1,r13.1.2.2.2,x11.2.1,x11.2.2.1,x11.2.2.2.1,r12.1,(0:Int)),()):=by kernel_rfl
end
end Go.Fw
