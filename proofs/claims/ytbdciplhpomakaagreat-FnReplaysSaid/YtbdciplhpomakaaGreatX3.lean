/- The given functions, as what they compute; each is shown to be what the code does. No conditions. -/
import Derived.Test.YtbdciplhpomakaaGreatX2
set_option linter.unusedSectionVars false
namespace Go.Fw
noncomputable section
def aaL:TC:=
 (zS [dN 2 0,bB 4] (zS [dP 8 2 2,au 9 1,zMx 10 154 8 9 5] (zQ (.join [] 4294965392 (some [⟨4,[.b],false⟩]) (zS [dP 11 2 2,au 12 1,jO 13 199 11 12,sw 14 13] (.block 0 (.loop [⟨15,[.i .i64],false⟩] 4294934672 (zS [gH 16 15 14] (zQ (zC 16 .skip (.exit 0)) (zQ (.block 1 (zS [kW 17 13 15 2 2,rC 7 1000000008,eB 7 7 18] (zS [gp 19 5,gp 20 5,au 28 1,OO 21 7 0 20 5 1,jO 25 197 19 24,bR 26 2 0,[o1 29 (.data (.bin .shr) [.t 27,.t 28]),o1 30 (.data (.bin .gtr) [.t 25,.t 29])]] (zC 30 (zS [bB 4] .ret) .skip)))) (zR [mV 31 15])))))))) (zS [ic 4] .ret))))
def aaM:aM:=⟨[.rd true nJ,.rd false [.d]],(.one false [.d])⟩
def aaN:aL:=aG [(154,qI),(199,QG),(197,Xr)]
def Mf (n:Nat):eD × Int->Option ((Bool) × Unit):=aI n aaN aaL [bK,[.i .i64]] [.b] [] [4] .no
def Mg:=Mf BIG
def aaO:TSp:=⟨aaM,[bK,[.i .i64]],[.b],[],Ou.j .no,Mg⟩
theorem aqP:zK aaN 196 aaM aaL 32 .no [4]:=by show _=_;kernel_rfl
theorem al5:aaO.Ok PG 196:=aQ (af sG (af aaK (af afp (az PG)))) aqP (by kernel_rfl)
theorem aqQ (n) (a0) (a1):Mf n (a0,a1) = (oC (a0,a1)).bind fun r0=> ((GQ (a0,a1)).bind fun r1=> aK n (X:=Int) (B:=(Unit) ⊕ (Bool)) (fun self3 x2=> bif decide (x2<(r1.1.length:Int)) then bnd r1.1.length x2 fun n4=> r1.1[n4]?.bind fun y5=> bnd r0.1.length y5.1 fun n6=> r0.1[n6]?.bind fun y7=> (EZ (r0.1,y7)).bind fun r8=> bif decide (a1<0) then none else bif decide ((Int.fdiv a0.1 (2 ^ (Nat.min (Int.toNat a1) (IntKind.bits .i64))))<r8.1) then some (Sum.inr false) else self3 (IntKind.wrap .i64 (x2+1)) else some (Sum.inl ())) (0:Int):Option ((Unit) ⊕ (Bool))).bind fun y=>match y with | .inl x9=> some (true,()) | .inr x9=> some (x9,()):=by kernel_rfl
def aje:TC:=
 (zS [kX 1 0] (zQ (.seq (.join [⟨17,[.b],false⟩] 262016 none (zR [dP 7 1 2,gI 8 150 7,gI 9 193 8,Na 10 9 4 1 0 4,D8 14 1 2 4,Tq 195 14 15 15 4,yH 194 13 15 16 16 4,ru 11 16 17])) (zC 17 (zS [bB 2] .ret) .skip)) (zQ (.join [] 1125899906580532 (some [⟨2,[.b],false⟩]) (zS [bR 18 1 1,sw 20 19] (.block 0 (.loop [⟨21,[.i .i64],false⟩] 1125899904745524 (zS [gH 22 21 20] (zQ (zC 22 .skip (.exit 0)) (zQ (.join [] 562949945032756 (some [⟨2,[.b],false⟩]) (.block 1 (zS [kW 23 19 21 4 4,Tt 4 1000000005,eB 4 4 24] (zQ (zS [bR 25 4 2,[o3 27 48 [.t 26,kO 0,kO 4]],jT 28 27] (zC 28 (zS [bB 2] .ret) .skip)) (zS [dP 29 1 2,bR 30 4 2,zMx 32 154 29 31 5] (zQ (.join [⟨48,[.b],false⟩] 562941363486720 none (zR [bR 33 4 3,Tv 35 34,Tu 5 37 37 3,wh 38 3 4 0 3,rA 40 37 39 3,Ca 41 5 1 40 3,Tu 5 42 42 3,wh 43 3 4 1 3,rA 45 42 44 3,Ca 46 5 1 45 3,zEv 47 41 46 3,pu 36 47 48])) (zC 48 (zS [bB 2] .ret) .skip))))))) (zR [mV 49 21])))))))) (zQ (.join [] 287104476244869188 (some [⟨2,[.b],false⟩]) (zS [nZ 6 1] (.block 2 (.loop [⟨6,[.i .i64],false⟩] 287104476244869188 (zQ (zS [au 50 6,zAy 51 50 4] (zC 51 .skip (.exit 2))) (zQ (.block 3 (zS [dP 54 1 2,au 55 6,jO 56 196 54 55,jT 57 56] (zC 57 (zS [bB 2] .ret) .skip))) (zR [ig 52 6 6]))))))) (zS [ic 2] .ret)))))
def ajf:aM:=⟨[.rd true nJ],(.one false [.d])⟩
def ajg:aL:=aG [(150,xV),(193,Me),(195,QD),(194,aja),(48,lm),(154,qI),(196,aaO)]
def Xt (n:Nat):eD->Option ((Bool) × Unit):=aI n ajg aje [bK] [.b] [] [2] .no
def zU:=Xt BIG
def E5:TSp:=⟨ajf,[bK],[.b],[],Ou.j .no,zU⟩
theorem awM:zK ajg 146 ajf aje 58 .no [2]:=by show _=_;kernel_rfl
theorem GR:E5.Ok PG 146:=aQ (af Ay (af Vr (af agc (af auj (af jW (af sG (af al5 (az PG)))))))) awM (by kernel_rfl)
theorem awN (n) (a0):Xt n a0 =
 ((mg a0).bind fun r0=>
  (C8 r0.1).bind fun r1=>
  bif !r1.1 then
   some true
  else (EY a0).bind fun r2=>
  (Xp (a0.1,r2.1)).bind fun r3=>
  some r3.1).bind fun x4=>
 bif x4 then
  some (false,())
 else (aK n (X:=Int) (B:=(Unit) ⊕ (Bool)) (fun self6 x5=>
  bif decide (x5<(a0.2.length:Int)) then
   (bnd a0.2.length x5 fun n7=>
    a0.2[n7]?.bind fun y8=>
    (fw (y8.2.2.1,(0:Int),(4:Int))).bind fun r9=>
    bif !r9.1 then
     some (Sum.inr false)
    else (oC (a0,y8.2.2.1)).bind fun r10=>
    (bif !y8.2.2.2 then
     bnd r10.1.length y8.1 fun n11=>
     r10.1[n11]?.bind fun y12=>
     bnd r10.1.length y8.2.1 fun n13=>
     r10.1[n13]?.bind fun y14=>
     some (!decide (y12=y14))
     else some false).bind fun x15=>
    bif x15 then
     some (Sum.inr false)
    else some (Sum.inl ())).bind fun y=>match y with
   | .inl x16=>
    self6 (IntKind.wrap .i64 (x5+1))
   | .inr x16=>
    some (Sum.inr x16)
  else some (Sum.inl ())) (0:Int)).bind fun y=>match y with
 | .inl x17=>
  (aK n (X:=Int) (B:=(Unit) ⊕ (Bool)) (fun self19 x18=>
   bif decide (x18<=4) then
    (Mg (a0,x18)).bind fun r20=>
    bif !r20.1 then
     some (Sum.inr false)
    else self19 (IntKind.wrap .i64 (x18+1))
   else some (Sum.inl ())) (1:Int)).bind fun y=>match y with
  | .inl x21=>
   some (true,())
  | .inr x21=>
   some (x21,())
 | .inr x17=>
  some (x17,()):=by kernel_rfl
def Vv:TC:=
 (zS [kX 1 0] (zQ (.join [⟨2,[.b],false⟩] 8388604 none (zR [iV 3 1 0 3,xm 5 4 0,au 6 5,ry 7 3,B_ 8 1 1 7 3,zEc 9 8 3,lN 6 9 10,wh 12 8 1 2 8,zHh 14 13 8,OG 15 14 8,lN 11 15 16,A_ 18 14 1 3,zHh 20 19 14,OG 21 20 14,nG 17 21 22 2])) .ret))
def Vw:aM:=⟨[.rd true M0],(.one false [.d])⟩
def Vx:aL:=aG []
def I8 (n:Nat):oV->Option ((Bool) × Unit):=aI n Vx Vv [iL] [.b] [] [2] .no
def I9:=I8 BIG
def Vy:TSp:=⟨Vw,[iL],[.b],[],Ou.j .no,I9⟩
theorem al6:zK Vx 83 Vw Vv 23 .no [2]:=by show _=_;kernel_rfl
theorem ajh:Vy.Ok PG 83:=aQ (az PG) al6 (by kernel_rfl)
theorem al7 (n) (a0):I8 n a0 = (bif decide (a0.1=0) then bif !a0.2.1 then bif decide ((a0.2.2.1.length:Int)=0) then some (decide ((a0.2.2.2.length:Int)=0)) else some false else some false else some false).bind fun x0=> some (x0,()):=by kernel_rfl
def QH:TC:=
 (zS [dN 1 0,yF 2] (zQ (zS [dP 3 1 2,gI 4 146 3,jT 5 4] (zC 5 (zS [yF 2] .ret) .skip)) (zS [dP 6 1 2,zHn 7 154 6,dK 7 2 7] .ret)))
def QI:aM:=⟨[.rd true nJ],(.one false fG)⟩
def QJ:aL:=aG [(146,E5),(154,qI)]
def xW (n:Nat):eD->Option ((List Int) × Unit):=aI n QJ QH [bK] [.sl [.i .i64]] [] [2] .no
def mY:=xW BIG
def E8:TSp:=⟨QI,[bK],[.sl [.i .i64]],[],Ou.j .no,mY⟩
theorem aji:zK QJ 70 QI QH 8 .no [2]:=by show _=_;kernel_rfl
theorem Nz:E8.Ok PG 70:=aQ (af GR (af sG (az PG))) aji (by kernel_rfl)
theorem QK (n) (a0):xW n a0 = (zU a0).bind fun r0=> bif !r0.1 then some ([],()) else (oC (a0,(0:Int))).bind fun r1=> some (r1.1,()):=by kernel_rfl
def Vz:TC:=
 (zS [bB 4] (zQ (zS [xw 6 0 6,xw 8 1 8,xn 10 7 9] (zC 10 (zS [bB 4] .ret) .skip)) (zQ (.join [] 67106864 (some [⟨4,[.b],false⟩]) (zS [M7 11 0] (.block 0 (.loop [⟨13,[.i .i64],false⟩] 67100720 (zS [gH 14 13 12] (zQ (zC 14 .skip (.exit 0)) (zQ (.block 1 (zS [M_ 15 13 5] (zS [dz 16 0 5,dz 20 1 5,nE 18 16 17 1,nE 22 20 21 1,xn 24 19 23] (zC 24 (zS [bB 4] .ret) .skip)))) (zR [mV 25 13])))))))) (zS [ic 4] .ret))))
def VA:aM:=⟨[.rd false fG,.rd false fG],(.one false [.d])⟩
def VB:aL:=aG []
def I_ (n:Nat):List Int × List (Int)->Option ((Bool) × Unit):=aI n VB Vz [[.sl [.i .i64]],[.sl [.i .i64]]] [.b] [] [4] .no
def Ja:=I_ BIG
def VC:TSp:=⟨VA,[[.sl [.i .i64]],[.sl [.i .i64]]],[.b],[],Ou.j .no,Ja⟩
theorem al8:zK VB 147 VA Vz 26 .no [4]:=by show _=_;kernel_rfl
theorem ajj:VC.Ok PG 147:=aQ (az PG) al8 (by kernel_rfl)
theorem al9 (n) (a0) (a1):I_ n (a0,a1) = bif !decide ((a0.length:Int)=(a1.length:Int)) then some (false,()) else (aK n (X:=Int) (B:=(Unit) ⊕ (Bool)) (fun self1 x0=> bif decide (x0<(a0.length:Int)) then bnd a0.length x0 fun n2=> a0[n2]?.bind fun y3=> bnd a1.length x0 fun n4=> a1[n4]?.bind fun y5=> bif !decide (y3=y5) then some (Sum.inr false) else self1 (IntKind.wrap .i64 (x0+1)) else some (Sum.inl ())) (0:Int)).bind fun y=>match y with | .inl x6=> some (true,()) | .inr x6=> some (x6,()):=by kernel_rfl
def aaP:TC:=
 (zS [kX 1 0] (zQ (.seq (.join [⟨12,[.b],false⟩] 8184 none (zR [iV 3 1 0 3,pz 5 48 4 3,jT 6 5,au 7 6,n_ 8 4,zHo 9 1 1 8 2 4,Tq 146 9 10 10 4,tZ 11 10 4 7])) (zC 12 (zS [bB 2] .ret) .skip)) (zQ (.join [⟨2,[.b],false⟩] 8589926404 none (zR [Gc 13 1 3 4,gI 15 83 14,au 16 15,n_ 17 3,xq 18 17 3,F9 19 1 1 18 3,n_ 20 3,zHo 21 1 3 20 4 3,yH 71 19 21 22 22 3,jN 23 22 3,YN 24 10 1 6,ry 27 10,zEp 28 1 1 27 2 10,zHj 70 28 29 29 10,qj 147 26 29 30 30 10,F_ 23 30 31 31 3 16,au 2 32])) .ret)))
def aaQ:aM:=⟨[.rd true OA],(.one false [.d])⟩
def aaR:aL:=aG [(48,lm),(146,E5),(83,Vy),(71,IU),(70,E8),(147,VC)]
def Mh (n:Nat):jU->Option ((Bool) × Unit):=aI n aaR aaP [gN] [.b] [] [2] .no
def C9:=Mh BIG
def aaS:TSp:=⟨aaQ,[gN],[.b],[],Ou.j .no,C9⟩
theorem aqR:zK aaR 63 aaQ aaP 33 .no [2]:=by show _=_;kernel_rfl
theorem al_:aaS.Ok PG 63:=aQ (af jW (af GR (af ajh (af Qr (af Nz (af ajj (az PG))))))) aqR (by kernel_rfl)
theorem aqS (n) (a0):Mh n a0 = ((fw (a0.1,(1:Int),(3:Int))).bind fun r0=> bif !r0.1 then some true else (zU (a0.2.1,a0.2.2.1)).bind fun r1=> some !r1.1).bind fun x2=> bif x2 then some (false,()) else ((I9 a0.2.2.2).bind fun r3=> bif r3.1 then some true else (Av (a0.2.1,a0.2.2.2)).bind fun r4=> bif r4.1 then (mY (a0.2.1,a0.2.2.1)).bind fun r5=> (Ja (a0.2.2.2.2.2.2,r5.1)).bind fun r6=> some r6.1 else some false).bind fun x7=> some (x7,()):=by kernel_rfl
def aaT:TC:=
 (zS [dN 1 0,D5 2 1000000003] (zS [iV 3 1 0 3,iV 5 1 1 5,zIC 7 6,[o5 (.build bK [(0,.t 4),(1,.t 7)]) 8 7],iY 2 8 2 8] .ret))
def aaU:aM:=⟨[.rd true nJ],(.one true nJ)⟩
def aaV:aL:=aG []
def C_ (n:Nat):eD->Option (eD × Unit):=aI n aaV aaT [bK] bK [] [2] .no
def xX:=C_ BIG
def Mi:TSp:=⟨aaU,[bK],bK,[],Ou.j .no,xX⟩
theorem aqT:zK aaV 148 aaU aaT 9 .no [2]:=by show _=_;kernel_rfl
theorem VD:Mi.Ok PG 148:=aQ (az PG) aqT (by kernel_rfl)
theorem aaW (n) (a0):C_ n a0 = bif decide (a0.2.length<=4294967296) then some (a0,()) else none:=by kernel_rfl
def NA:TC:=
 (zS [dN 1 0,zHq 2 1000000003] (zS [iV 3 1 2 3,gI 5 132 4,iV 6 1 3 6,gI 8 72 7,jy 9,F8 5 2 9 5,jy 10,F8 8 3 10 8] (zS [xu 11 1 4 2 2 1] .ret)))
def NB:aM:=⟨[.rd true M0],(.one true M0)⟩
def NC:aL:=aG [(132,xP),(72,Ao)]
def BN (n:Nat):oV->Option (oV × Unit):=aI n NC NA [iL] iL [] [2] .no
def lL:=BN BIG
def BP:TSp:=⟨NB,[iL],iL,[],Ou.j .no,lL⟩
theorem agd:zK NC 66 NB NA 12 .no [2]:=by show _=_;kernel_rfl
theorem J9:BP.Ok PG 66:=aQ (af BL (af EC (az PG))) agd (by kernel_rfl)
theorem age (n) (a0):BN n a0 = (sF a0.2.2.1).bind fun r0=> (mF a0.2.2.2).bind fun r1=> some ((a0.1,a0.2.1,r0.1,r1.1),()):=by kernel_rfl
def QL:TC:=
 (zS [dN 1 0,D6 2 1000000003] (zS [iV 3 1 0 3,jy 5,JE 6 1 1 5 2,gI 7 148 6,jy 8,JE 9 1 3 8 4,gI 10 66 9,[⟨false,[],[],.det 3 (.build gN [(0,.t 4),(1,.t 7),(3,.t 10)]),[11,7,10],(some 11),none⟩],iY 2 11 2 11] .ret))
def QM:aM:=⟨[.rd true OA],(.one true OA)⟩
def QN:aL:=aG [(148,Mi),(66,BP)]
def E9 (n:Nat):jU->Option (jU × Unit):=aI n QN QL [gN] gN [] [2] .no
def E_:=E9 BIG
def QO:TSp:=⟨QM,[gN],gN,[],Ou.j .no,E_⟩
theorem ajk:zK QN 65 QM QL 12 .no [2]:=by show _=_;kernel_rfl
theorem agf:QO.Ok PG 65:=aQ (af VD (af J9 (az PG))) ajk (by kernel_rfl)
theorem ajl (n) (a0):E9 n a0 = (xX (a0.2.1,a0.2.2.1)).bind fun r0=> (lL a0.2.2.2).bind fun r1=> some ((a0.1,r0.1.1,r0.1.2,r1.1),()):=by kernel_rfl
def aaX:TC:=
 (zS [dN 2 0,kX 3 1] (zS [iV 5 2 1 5,dP 7 3 2,jO 8 155 6 7,au 4 8] .ret))
def aaY:aM:=⟨[.rd true OD,.rd true [.d,.d]],(.one false [.d])⟩
def aaZ:aL:=aG [(155,CZ)]
def Mj (n:Nat):BH × aR->Option ((Bool) × Unit):=aI n aaZ aaX [kU,[.i .i64,.i .i64]] [.b] [] [4] .no
def Da:=Mj BIG
def Mk:TSp:=⟨aaY,[kU,[.i .i64,.i .i64]],[.b],[],Ou.j .no,Da⟩
theorem aqU:zK aaZ 149 aaY aaX 9 .no [4]:=by show _=_;kernel_rfl
theorem VE:Mk.Ok PG 149:=aQ (af IP (az PG)) aqU (by kernel_rfl)
theorem aqV (n) (a0) (a1):Mj n (a0,a1) = (xS (a0.2,a1)).bind fun r0=> some (r0.1,()):=by kernel_rfl
def VF:TC:=
 (zS [dN 4 1,rC 6 1000000007,bB 7] (zS [dD 15,su 16 15,zJd 17 0 16 2,au 18 2,zMx 19 154 17 18 8] (zS [gp 20 8,OO 21 4 0 20 8 1,au 9 24] (zQ (.join [⟨9,[.i .i64],false⟩] 35184338534912 none (zS [gp 25 8,gp 26 8,gp 32 8,gp 33 8,OO 27 4 1 26 8 1,jO 31 197 25 30,OO 34 4 0 33 8 1,jO 38 197 32 37,gH 39 31 38] (zC 39 (zR [gp 40 8,OO 41 4 1 40 8 1,au 9 44]) .skip))) (zS [zJv 45 2,[o1 47 (.data .min [.t 46,kD 4])],au 10 47] (zQ (.join [⟨0,bK,false⟩] 1237940039285098799922419713 none (zS [Ga 48 1,sw 52 51] (.block 0 (.loop [⟨0,bK,false⟩,⟨53,[.i .i64],false⟩] 1237940039278624875458205697 (zS [gH 54 53 52] (zQ (zC 54 .skip (.exit 0)) (zQ (.join [⟨0,bK,false⟩] 618970019606661340430604289 none (.block 1 (zS [M_ 55 53 11] (zS [Ga 56 1,au 60 11,xg 61 59 60,su 12 61] (zQ (.join [⟨84,[.b],false⟩] 38685621615982115163209728 none (zR [su 62 12,nD 63 62,zJm 65 0 1 4 3 64,au 66 65,zJf 67 12 4,zJf 68 67 4,JF 69 68 4,[o2 70 (.load 0 [(1,4)] 2 (.t 69) 1 false) 4 true],iJ 71 2 4,D7 72 70 71 4,lN 66 72 73,Tu 8 75 75 12,zJf 76 12 12,zJf 77 76 12,JF 78 77 12,[o2 79 (.load 0 [(1,4)] 0 (.t 78) 1 false) 12 true],rA 80 75 79 12,Ca 81 8 1 80 12,iJ 82 9 12,D7 83 81 82 12,pu 74 83 84])) (zC 84 (zR [su 85 12,au 86 10,nD 87 85,zBg 0 59 0 1 4 2 88 86]) .skip)))))) (zR [mV 89 53])))))))) (zQ (.join [⟨0,bK,false⟩,⟨6,[.i .i64,.i .i64],false⟩] 1496577676626844588240572030761434526747400024907969 (some [⟨6,[.i .i64,.i .i64],false⟩,⟨7,[.b],false⟩,⟨0,bK,false⟩]) (zS [Ga 90 1,sw 94 93] (.block 2 (.loop [⟨0,bK,false⟩,⟨6,[.i .i64,.i .i64],false⟩,⟨95,[.i .i64],false⟩] 1496577676626844588240543558140530963001077345050817 (zS [gH 96 95 94] (zQ (zC 96 .skip (.exit 2)) (zQ (.join [⟨0,bK,false⟩,⟨6,[.i .i64,.i .i64],false⟩] 748288838313422294120128178025708377388650374127809 (some [⟨6,[.i .i64,.i .i64],false⟩,⟨7,[.b],false⟩,⟨0,bK,false⟩]) (.block 3 (zS [M_ 97 95 13] (zS [Ga 98 1,au 102 13,xg 103 101 102,su 14 103] (zQ (.seq (.join [⟨137,[.b],false⟩] 348449143706758576982843927586183397244928 none (zR [su 104 14,nD 105 104,zJm 107 0 1 4 3 106,au 108 107,zJh 109 14 4,zJh 110 109 4,xq 111 110 4,[o2 112 (.load 0 [(1,4)] 2 (.t 111) 1 false) 4 false],jN 113 2 4,JJ 114 112 113 4 108,au 116 115,zIo 8 117 117 12,zJh 118 14 12,zJh 119 118 12,xq 120 119 12,[o2 121 (.load 0 [(1,4)] 0 (.t 120) 1 false) 12 false],zEf 122 117 121 12,YL 123 8 1 122 12,jN 124 9 12,zEh 125 123 124 12,jN 126 125 12,Tu 8 127 127 22,zJf 128 14 22,zJf 129 128 22,JF 130 129 22,[o2 131 (.load 0 [(1,4)] 1 (.t 130) 1 false) 22 true],rA 132 127 131 22,Ca 133 8 1 132 22,iJ 134 9 22,zEv 135 133 134 22,F_ 126 135 136 136 12 116])) (zC 137 (.exit 3) .skip)) (zQ (zS [gp 138 8,su 139 14,gp 145 8,su 146 14,nD 140 139,zGi 142 0 1 4 141,JI 143 138 142 8 1,nD 147 146,zJm 149 0 1 4 1 148,JI 150 145 149 8 1,xn 152 144 151] (zC 152 (zS [su 153 14,nD 154 153,zHa 0 101 0 1 4 3 155] (zS [su 156 14,su 160 14,nD 157 156,zGi 159 0 1 4 158,nD 161 160,zJm 163 0 1 4 1 162,M3 164 159 163,eB 6 6 164,ic 7] .ret)) .skip)) (zR [su 165 14,au 166 10,nD 167 165,zBg 0 101 0 1 4 2 168 166]))))))) (zR [mV 169 95])))))))) (zS [zHC 170,eB 6 6 170,bB 7] .ret))))))))
def VG:aM:=⟨[.mp nJ,.rd true [.d,.d],.rd false [.d]],(.tup [(true,2),(false,1)] [.d,.d,.d])⟩
def VH:aL:=aG [(154,qI),(197,Xr)]
def Jb (n:Nat):eD × aR × Int->Option ((Int × Int × Bool) × Int × List l9):=aI n VH VF [bK,[.i .i64,.i .i64],[.i .i64]] [.i .i64,.i .i64,.b] bK [6,7] (.mp 0)
def qJ:=Jb BIG
def VI:TSp:=⟨VG,[bK,[.i .i64,.i .i64],[.i .i64]],[.i .i64,.i .i64,.b],bK,Ou.j (.mp 0),qJ⟩
theorem ama:zK VH 151 VG VF 171 (.mp 0) [6,7]:=by show _=_;kernel_rfl
theorem ajm:VI.Ok PG 151:=aQ (af sG (af afp (az PG))) ama (by kernel_rfl)
theorem amb (n) (a0) (a1) (a2):Jb n (a0,a1,a2) =
 (oC (a0,a2)).bind fun r0=>
 bnd r0.1.length a1.1 fun n1=>
 r0.1[n1]?.bind fun y2=>
 (bnd r0.1.length a1.2 fun n3=>
  r0.1[n3]?.bind fun y4=>
  (EZ (r0.1,y4)).bind fun r5=>
  bnd r0.1.length a1.1 fun n6=>
  r0.1[n6]?.bind fun y7=>
  (EZ (r0.1,y7)).bind fun r8=>
  bif decide (r5.1<r8.1) then
   bnd r0.1.length a1.2 fun n9=>
   r0.1[n9]?.bind fun y10=>
   some y10
  else some y2).bind fun x11=>
 (aK n (X:=eD × Int) (B:=eD) (fun self13 x12=>
  bif decide (x12.2<(a0.2.length:Int)) then
   (bnd x12.1.2.length x12.2 fun n14=>
    (x12.1.2[n14]?.bind fun y15=>
     bif y15.2.2.2 then
      x12.1.2[n14]?.bind fun y16=>
      bif decide (y16.2.2.1=a2) then
       x12.1.2[n14]?.bind fun y17=>
       bnd r0.1.length y17.1 fun n18=>
       r0.1[n18]?.bind fun y19=>
       some (decide (y19=x11))
      else some false
     else some false).bind fun x20=>
    bif x20 then
     x12.1.2[n14]?.bind fun y21=>
     some (x12.1.1,x12.1.2.set n14 (y21.1,y21.2.1,(if (4:Int)<(IntKind.wrap .i64 (a2+1)) then (4:Int) else (IntKind.wrap .i64 (a2+1))),y21.2.2.2))
    else some x12.1).bind fun x22=>
   self13 (x22,IntKind.wrap .i64 (x12.2+1))
  else some x12.1) (a0,(0:Int))).bind fun x23=>
 (aK n (X:=eD × aR × Int) (B:=(eD × aR) ⊕ (aR × Bool × eD)) (fun self25 x24=>
  bif decide (x24.2.2<(x23.2.length:Int)) then
   (bnd x24.1.2.length x24.2.2 fun n26=>
    (x24.1.2[n26]?.bind fun y27=>
     bif y27.2.2.2 then
      some true
     else x24.1.2[n26]?.bind fun y28=>
     bif !decide (y28.2.2.1=a2) then
      some true
     else x24.1.2[n26]?.bind fun y29=>
     bnd r0.1.length y29.1 fun n30=>
     r0.1[n30]?.bind fun y31=>
     bif !decide (y31=x11) then
      x24.1.2[n26]?.bind fun y32=>
      bnd r0.1.length y32.2.1 fun n33=>
      r0.1[n33]?.bind fun y34=>
      some (!decide (y34=x11))
     else some false).bind fun x35=>
    bif x35 then
     some (Sum.inl (x24.1,x24.2.1))
    else x24.1.2[n26]?.bind fun y36=>
    bnd r0.1.length y36.1 fun n37=>
    r0.1[n37]?.bind fun y38=>
    x24.1.2[n26]?.bind fun y39=>
    bnd r0.1.length y39.2.1 fun n40=>
    r0.1[n40]?.bind fun y41=>
    bif !decide (y38=y41) then
     x24.1.2[n26]?.bind fun y42=>
     Option.bind (x24.1.2.set n26 (y42.1,y42.2.1,y42.2.2.1,true))[n26]? fun y43=>
     Option.bind (x24.1.2.set n26 (y42.1,y42.2.1,y42.2.2.1,true))[n26]? fun y44=>
     some (Sum.inr ((y43.1,y44.2.1),true,(x24.1.1,x24.1.2.set n26 (y42.1,y42.2.1,y42.2.2.1,true))))
    else x24.1.2[n26]?.bind fun y45=>
    some (Sum.inl ((x24.1.1,x24.1.2.set n26 (y45.1,y45.2.1,(if (4:Int)<(IntKind.wrap .i64 (a2+1)) then (4:Int) else (IntKind.wrap .i64 (a2+1))),y45.2.2.2)),x24.2.1))).bind fun y=>match y with
   | .inl x46=>
    self25 (x46.1,x46.2,IntKind.wrap .i64 (x24.2.2+1))
   | .inr x46=>
    some (Sum.inr (x46.1,x46.2.1,x46.2.2))
  else some (Sum.inl (x24.1,x24.2.1))) (x23,((0:Int),(0:Int)),(0:Int))).bind fun y=>match y with
 | .inl x47=>
  some (((0:Int),(0:Int),false),x47.1)
 | .inr x47=>
  some ((x47.1.1,x47.1.2,x47.2.1),x47.2.2):=by kernel_rfl
def aa0:TC:=
 (zS [dN 2 0,dN 3 1,D5 4 1000000005,rC 5 1000000006,bB 6,bB 7] (zQ (.seq (.join [⟨24,[.b],false⟩] 33521664 none (zR [Bc 15 2 2 146,Tv 17 16,D8 19 2 2 3,Tq 150 19 20 20 3,TD 21 3 2 3 149 20 3,tZ 23 22 3 18])) (zC 24 (zS [zBD 25,zHC 26,iY 4 25 4 25,eB 5 5 26,bB 6,bB 7] .ret) .skip)) (zS [bR 27 2 0,zBE 29 28,D5 8 1000000009,iY 8 29 8 29] (zS [Tt 9 1000000010] (zQ (.join [⟨9,qN,false⟩,⟨8,bK,false⟩] 144115187002116864 none (zS [bR 30 2 1,sw 32 31] (.block 0 (.loop [⟨9,qN,false⟩,⟨8,bK,false⟩,⟨33,[.i .i64],false⟩] 144115179485924096 (zS [gH 34 33 32] (zQ (zC 34 .skip (.exit 0)) (zQ (.join [⟨9,qN,false⟩,⟨8,bK,false⟩] 72057559678192384 none (.block 1 (zS [kW 35 31 33 4 4,Tt 11 1000000012,eB 11 11 36] (zQ (.seq (.join [⟨48,[.b],false⟩] 562812514467840 none (zR [pG 37 11 0 3 0,pE 41 38 40,uB 42 41 5 11 1 5,wh 45 5 3 1 5,D7 47 44 46 5,pu 42 47 48])) (zC 48 (zS [dP 49 11 4,eB 9 9 49] (.exit 1)) .skip)) (zR [uA 50 8 1,dP 52 11 4,zHt 53 52,YO 51 51 53 54 51 51 8 54 8 8 1]))))) (zR [mV 56 33])))))))) (zQ (.join [⟨8,bK,false⟩,⟨4,bK,false⟩,⟨5,[.i .i64,.i .i64],false⟩] 75557719610726247592432 (some [⟨4,bK,false⟩,⟨5,[.i .i64,.i .i64],false⟩,⟨6,[.b],false⟩,⟨7,[.b],false⟩]) (zS [bR 57 9 2,au 12 58] (.block 2 (.loop [⟨8,bK,false⟩,⟨4,bK,false⟩,⟨5,[.i .i64,.i .i64],false⟩,⟨12,[.i .i64],false⟩] 75557287265162020024816 (zQ (.seq (.join [⟨64,[.b],false⟩] 36317027395115679744 none (zR [au 59 12,zHE 60 59,uB 61 60 2 9 3 2,pu 61 63 64])) (zC 64 .skip (.exit 2))) (zQ (.block 3 (zS [dP 68 3 2,au 69 12,zGt 151 8 68 69 70 8 70,dK 70 67 70,[o1 71 (.ext 67 0 2)],xh 72 67 2,rC 13 1000000014,eB 13 13 71,au 14 72] (zS [au 73 14] (zC 73 (zS [iZ 74 8 2,zIb 4 8 13 2 75 75,DZ 74 4 74 4 74 74 8,eB 5 5 75,ic 6,ic 7] .ret) .skip)))) (zR [au 65 12,yI 66 65,au 12 66]))))))) (zS [iZ 76 8 2,zHC 77,DZ 76 4 76 4 76 76 8,eB 5 5 77,bB 6,ic 7] .ret)))))))
def aa1:aM:=⟨[.rd true nJ,.rd true [.d,.d]],(.tup [(true,2),(true,2),(false,1),(false,1)] [.d,.sl (.own none) [.d,.d,.d,.d],.d,.d,.d,.d])⟩
def aa2:aL:=aG [(146,E5),(150,xV),(149,Mk),(151,VI)]
def Ml (n:Nat):eD × aR->Option (aBQ × Unit):=aI n aa2 aa0 [bK,[.i .i64,.i .i64]] apC [] [4,5,6,7] .no
def jX:=Ml BIG
def Mm:TSp:=⟨aa1,[bK,[.i .i64,.i .i64]],apC,[],Ou.j .no,jX⟩
theorem aqW:zK aa2 67 aa1 aa0 78 .no [4,5,6,7]:=by show _=_;kernel_rfl
theorem VJ:Mm.Ok PG 67:=aQ (af GR (af Ay (af VE (af ajm (az PG))))) aqW (by kernel_rfl)
theorem aqX (n) (a0) (a1):Ml n (a0,a1) = ((zU a0).bind fun r0=> bif !r0.1 then some true else (mg a0).bind fun r1=> (Da (r1.1,a1)).bind fun r2=> some !r2.1).bind fun x3=> bif x3 then some (((0:Int),[],(0:Int),(0:Int),false,false),()) else (aK n (X:=l9 × eD × Int) (B:=l9 × eD) (fun self5 x4=> bif decide (x4.2.2<(a0.2.length:Int)) then (bnd a0.2.length x4.2.2 fun n6=> a0.2[n6]?.bind fun y7=> (bif decide (y7.1=a1.1) then some (decide (y7.2.1=a1.2)) else some false).bind fun x8=> bif x8 then some (y7,x4.2.1) else bif decide (x4.2.1.2.length+[y7].length<=4294967296) then some (x4.1,(x4.2.1.1,x4.2.1.2++[y7])) else none:Option (l9 × eD)).bind fun x9=> self5 (x9.1,x9.2,IntKind.wrap .i64 (x4.2.2+1)) else some (x4.1,x4.2.1)) (((0:Int),(0:Int),(0:Int),false),(a0.1,[]),(0:Int))).bind fun x10=> (aK n (X:=eD × eD × aR × Int) (B:=(eD × eD × aR) ⊕ (eD × aR × Bool × Bool)) (fun self12 x11=> (bif decide (0<=x11.2.2.2) then some x10.1.2.2.2 else some false).bind fun x13=> bif x13 then (qJ (x11.1,a1,x11.2.2.2)).bind fun r14=> bif r14.1.2.2 then some (Sum.inr (r14.2,(r14.1.1,r14.1.2.1),true,true)) else self12 (r14.2,x11.2.1,x11.2.2.1,IntKind.wrap .i64 (x11.2.2.2-1)) else some (Sum.inl (x11.1,x11.2.1,x11.2.2.1))) (x10.2,((0:Int),[]),((0:Int),(0:Int)),x10.1.2.2.1)).bind fun y=>match y with | .inl x15=> some ((x15.1.1,x15.1.2,(0:Int),(0:Int),false,true),()) | .inr x15=> some ((x15.1.1,x15.1.2,x15.2.1.1,x15.2.1.2,x15.2.2),()):=by kernel_rfl
def ajn:TC:=
 (zS [dN 1 0,A9 2] (zS [jy 3,JE 4 1 1 3 2,gI 5 150 4,zIn 5 1 1 6 5,dK 6 2 6] .ret))
def ajo:aM:=⟨[.rd true OA],(.one false iM)⟩
def ajp:aL:=aG [(150,xV)]
def Xu (n:Nat):jU->Option ((List aR) × Unit):=aI n ajp ajn [gN] [.sl [.i .i64,.i .i64]] [] [2] .no
def Mo:=Xu BIG
def ajq:TSp:=⟨ajo,[gN],[.sl [.i .i64,.i .i64]],[],Ou.j .no,Mo⟩
theorem awO:zK ajp 152 ajo ajn 7 .no [2]:=by show _=_;kernel_rfl
theorem aum:ajq.Ok PG 152:=aQ (af Ay (az PG)) awO (by kernel_rfl)
theorem awP (n) (a0):Xu n a0 = (mg (a0.2.1,a0.2.2.1)).bind fun r0=> some (r0.1.2,()):=by kernel_rfl
def Fa:TC:=
 (zS [A9 4] (zS [A9 5] (zQ (.join [⟨0,gN,false⟩,⟨5,[.sl [.i .i64,.i .i64]],false⟩] 2251799813685153 none (zS [dD 12,su 13 12,zJd 14 0 13 7,gI 15 152 14,sw 16 15] (.block 0 (.loop [⟨0,gN,false⟩,⟨5,[.sl [.i .i64,.i .i64]],false⟩,⟨17,[.i .i64],false⟩] 2251799813574561 (zS [gH 18 17 16] (zQ (zC 18 .skip (.exit 0)) (zQ (.join [⟨0,gN,false⟩,⟨5,[.sl [.i .i64,.i .i64]],false⟩] 1125899906322337 none (.block 1 (zS [kW 19 15 17 2 2,rC 7 1000000008,eB 7 7 20] (zQ (.join [⟨30,[.b],false⟩] 2145386496 none (zR [Gf 21 7 0 1,pE 24 22 23,M8 25 24 4 7 1 4,jN 28 1 4,zDA 29 27 28 4,ru 25 29 30])) (zC 30 (zS [dD 32,[⟨false,[],[1000000009,1000000010],.det 1 (.same 32),[33],(some 33),none⟩],zJn 1000000009 1000000010,zJo 1000000009 1000000010 0 34 35 35,zIb 1000000009 1000000010 7 2 36 36,zKz 1000000009 1000000010 67 35 36 37 37 31 31 0 2,zLA 1000000009 1000000010 31 2 2 39 39 4 5,zIk 1000000010 8 1000000009 8,zIm 1000000009 9 1000000010 9,iY 8 38 8 38,eB 9 9 39,yL 10 40] (zS [dD 42,iZ 43 8 2,nD 44 42,zJp 43 0 45 43 0 43 43 8 35] (zR [dK 5 46 5,dP 47 7 2,JL 48 47 46 46 5]))) .skip))))) (zR [mV 50 17])))))))) (zS [t_ 5 51 5 4] .ret))))
def Fb:aM:=⟨[.mp OA,.rd false [.d]],(.one false iM)⟩
def Fe:aL:=aG [(152,ajq),(67,Mm)]
def vO (n:Nat):jU × Int->Option ((List aR) × Int × Int × List l9 × Int × Bool × List aR × List Int):=aI n Fe Fa [gN,[.i .i64]] [.sl [.i .i64,.i .i64]] gN [4] (.mp 0)
def p9:=vO BIG
def Ff:TSp:=⟨Fb,[gN,[.i .i64]],[.sl [.i .i64,.i .i64]],gN,Ou.j (.mp 0),p9⟩
theorem Xv:zK Fe 68 Fb Fa 52 (.mp 0) [4]:=by show _=_;kernel_rfl
theorem Te:Ff.Ok PG 68:=aQ (af aum (af VJ (az PG))) Xv (by kernel_rfl)
theorem Xw (n) (a0) (a1):vO n (a0,a1) = ((Mo a0).bind fun r0=> aK n (X:=jU × (List aR) × Int) (B:=jU × (List aR)) (fun self2 x1=> bif decide (x1.2.2<(r0.1.length:Int)) then (bnd r0.1.length x1.2.2 fun n3=> r0.1[n3]?.bind fun y4=> (bif decide (y4.1=a1) then some true else some (decide (y4.2=a1))).bind fun x5=> bif x5 then (jX ((x1.1.2.1,x1.1.2.2.1),y4)).bind fun r6=> bif decide (x1.2.1.length+[y4].length<=4294967296) then some ((x1.1.1,r6.1.1,r6.1.2.1,x1.1.2.2.2),x1.2.1++[y4]) else none else some (x1.1,x1.2.1):Option (jU × (List aR))).bind fun x7=> self2 (x7.1,x7.2,IntKind.wrap .i64 (x1.2.2+1)) else some (x1.1,x1.2.1)) (a0,[],(0:Int)):Option (jU × (List aR))).bind fun x8=> some (x8.2,x8.1):=by kernel_rfl
def aa3:TC:=
 (zS [dN 2 0,dN 3 1,zGC 4 1000000005,bB 5] (zQ (.seq (.join [⟨20,[.b],false⟩] 2097088 none (zR [dP 6 2 2,gI 7 193 6,jT 8 7,M8 9 8 3 2 0 3,TD 12 3 2 3 189 11 3,D_ 14 13 3 9,D8 17 2 2 10,D8 18 3 2 10,yH 149 17 18 19 19 10,ru 16 19 20])) (zC 20 (zS [[o1 21 (.build kU [])],Ce 4 21 4 21] .ret) .skip)) (zS [pG 22 2 0 2 1,yK 26 3 2 156 25,zHr,iY 4 28 4 28,ic 5] .ret)))
def aa4:aM:=⟨[.rd true OD,.rd true [.d,.d]],(.tup [(true,2),(false,1)] [.d,.sl (.own none) [.d,.d],.d])⟩
def aa5:aL:=aG [(193,Me),(189,GJ),(149,Mk),(156,Au)]
def Mq (n:Nat):BH × aR->Option ((Int × List aR × Bool) × Unit):=aI n aa5 aa3 [kU,[.i .i64,.i .i64]] apE [] [4,5] .no
def Mr:=Mq BIG
def aa6:TSp:=⟨aa4,[kU,[.i .i64,.i .i64]],apE,[],Ou.j .no,Mr⟩
theorem aqY:zK aa5 198 aa4 aa3 29 .no [4,5]:=by show _=_;kernel_rfl
theorem amc:aa6.Ok PG 198:=aQ (af Vr (af LQ (af VE (af EF (az PG))))) aqY (by kernel_rfl)
theorem aqZ (n) (a0) (a1):Mq n (a0,a1) = ((C8 a0).bind fun r0=> bif !r0.1 then some true else (Bj (a0.1,a1)).bind fun r1=> bif !r1.1 then some true else (Da (a0,a1)).bind fun r2=> some r2.1).bind fun x3=> bif x3 then some (((0:Int),[],false),()) else (uF (a0.2,a1)).bind fun r4=> some ((a0.1,r4.1,true),()):=by kernel_rfl
def afq:TC:=
 (zS [dN 2 0,dN 3 1,D5 4 1000000005,bB 5] (zQ (zS [zHu 1000000007 2 12 12,zHv 1000000007 150 12 13 13,zHw 1000000007 14 14,zHx 1000000007 198 13 14 15 15,zMi 1000000007 2 15 11 15 11,zGC 6 1000000007,pF 6 16 6 16] (zQ (.join [⟨24,[.b],false⟩] 33292288 none (zR [Bc 18 2 2 146,JM 20 19 7 3,tZ 23 22 3 21])) (zC 24 (zS [zBD 25,Ce 4 25 4 25] .ret) .skip))) (zS [dP 26 2 2,zHn 27 154 26,dK 27 8 27] (zS [bO 9] (zQ (.join [⟨9,[.i .i64],false⟩] 4503599358935552 none (.block 0 (.loop [⟨9,[.i .i64],false⟩] 4503599358935552 (zQ (.seq (.join [⟨49,[.b],false⟩] 1125899638407168 none (zR [OL 28 9 2 1 31,uB 33 32 5 2 1 5,iJ 36 9 5,rA 37 35 36 5,JF 38 37 5,Ca 39 35 4 38 5,wh 40 5 2 1 5,iJ 42 9 5,rA 43 41 42 5,JF 44 43 5,zHs 45 41 4 1 44 5,[o2 46 (.build [.i .i64,.i .i64] [(0,.t 39),(1,.t 45)]) 5 true],zEA 47 3 2 5,qj 192 46 47 48 48 5,pu 33 48 49])) (zC 49 .skip (.exit 0))) (.block 1 (zR [ig 50 9 9])))))) (zS [au 56 9,M5 1000000011 52 52 2 0,M5 1000000011 54 54 2 1,[⟨false,[],[1000000011],.det 1 (.res 55 none (some (.t 56))),[57],(some 57),none⟩,⟨false,[],[1000000011],.det 1 (.build bK [(0,.t 53),(1,.t 57)]),[58],(some 58),none⟩],zHv 1000000011 148 58 59 59,D5 10 1000000011,iY 10 59 10 59] (zS [gp 66 8,gp 71 8,au 82 9,zGv 1000000003 60 60,zJb 1000000003 10 60 1 61 61,pG 62 3 0 3 1,OO 67 3 0 66 8 1,OO 72 3 1 71 8 1,xn 76 70 75,[o5 (.build qN [(0,.t 63),(1,.t 65),(2,kO 0),(3,.t 76)]) 77 1000000003],zHt 78 77,zBt 61 61 78 79 61 61 10 79,zMf 1000000003 10 80 80 2 1,[⟨false,[],[1000000003,10],.det 1 (.res 81 (some (.t 82)) none),[83],(some 83),none⟩],yG 79 83 84 79,zMc 85 10 84 61 10 1 84] (zS [iZ 86 10 2,DZ 86 4 86 4 86 86 10,ic 5] .ret))))))))
def afr:aM:=⟨[.rd true nJ,.rd true [.d,.d]],(.tup [(true,2),(false,1)] Ct7)⟩
def afs:aL:=aG [(150,xV),(198,aa6),(146,E5),(154,qI),(192,LU),(148,Mi)]
def QP (n:Nat):eD × aR->Option (apI × Unit):=aI n afs afq [bK,[.i .i64,.i .i64]] Oz [] [4,5] .no
def wB:=QP BIG
def aft:TSp:=⟨afr,[bK,[.i .i64,.i .i64]],Oz,[],Ou.j .no,wB⟩
theorem aun:zK afs 153 afr afq 87 .no [4,5]:=by show _=_;kernel_rfl
theorem aq0:aft.Ok PG 153:=aQ (af Ay (af amc (af GR (af sG (af P6 (af VD (az PG))))))) aun (by kernel_rfl)
theorem auo (n) (a0) (a1):QP n (a0,a1) = (mg a0).bind fun r0=> (Mr (r0.1,a1)).bind fun r1=> ((zU a0).bind fun r2=> bif !r2.1 then some true else some !r1.1.2.2).bind fun x3=> bif x3 then some (((0:Int),[],false),()) else (oC (a0,(0:Int))).bind fun r4=> (aK n (X:=Int) (B:=Int) (fun self6 x5=> (bif decide (x5<(a0.2.length:Int)) then bnd a0.2.length x5 fun n7=> a0.2[n7]?.bind fun y8=> bnd a0.2.length x5 fun n9=> a0.2[n9]?.bind fun y10=> (zG ((y8.1,y10.2.1),a1)).bind fun r11=> some r11.1 else some false).bind fun x12=> bif x12 then self6 (IntKind.wrap .i64 (x5+1)) else some x5) (0:Int)).bind fun x13=> bif decide (0<=x13) then bif decide (0<=(Int.toNat x13)/\(Int.toNat x13)<=a0.2.length) then (xX (a0.1,List.take ((Int.toNat x13)-0) (List.drop 0 a0.2))).bind fun r14=> bnd r4.1.length a1.1 fun n15=> r4.1[n15]?.bind fun y16=> bnd r4.1.length a1.2 fun n17=> r4.1[n17]?.bind fun y18=> bif decide (r14.1.2.length+([(a1.1,a1.2,(0:Int),!decide (y16=y18))]).length<=4294967296) then bif decide (0<=x13) then bif decide ((Int.toNat x13)<=a0.2.length/\a0.2.length<=a0.2.length) then bif decide ((r14.1.2++([(a1.1,a1.2,(0:Int),!decide (y16=y18))])).length+(List.take (a0.2.length-(Int.toNat x13)) (List.drop (Int.toNat x13) a0.2)).length<=4294967296) then some ((r14.1.1,(r14.1.2++([(a1.1,a1.2,(0:Int),!decide (y16=y18))]))++(List.take (a0.2.length-(Int.toNat x13)) (List.drop (Int.toNat x13) a0.2)),true),()) else none else none else none else none else none else none:=by kernel_rfl
def GU:TC:=
 (zS [bB 4] (zS [ic 5] (zQ (.join [⟨0,gN,false⟩,⟨5,[.b],false⟩] 34359738273 none (zS [M7 10 1] (.block 0 (.loop [⟨0,gN,false⟩,⟨5,[.b],false⟩,⟨12,[.i .i64],false⟩] 34359735201 (zS [gH 13 12 11] (zQ (zC 13 .skip (.exit 0)) (zQ (.join [⟨0,gN,false⟩,⟨5,[.b],false⟩] 17179853729 none (.block 1 (zS [kW 14 10 12 2 2,rC 7 1000000008,eB 7 7 15] (zS [dD 17,zMk 1000000009 17 18 18 0 2,zHu 1000000009 7 21 21,zHx 1000000009 153 20 21 22 22,zMi 1000000009 2 22 16 22 16,D5 8 1000000009,pF 8 23 8 23] (zQ (.join [⟨0,gN,false⟩] 1041236225 none (zS [au 25 9] (zC 25 (zR [dD 26,iZ 27 8 2,nD 28 26,zJp 27 0 29 27 0 27 27 8 20]) .skip))) (.join [⟨5,[.b],false⟩] 16106127392 none (zR [au 30 5,Cc 31 30 9 1,nG 31 32 33 5]))))))) (zR [mV 34 12])))))))) (zS [M_ 35 5 4] .ret))))
def GV:aM:=⟨[.mp OA,.rd false iM],(.one false [.d])⟩
def GX:aL:=aG [(153,aft)]
def xY (n:Nat):jU × (List aR)->Option ((Bool) × Int × Int × List l9 × Int × Bool × List aR × List Int):=aI n GX GU [gN,[.sl [.i .i64,.i .i64]]] [.b] gN [4] (.mp 0)
def rF:=xY BIG
def GY:TSp:=⟨GV,[gN,[.sl [.i .i64,.i .i64]]],[.b],gN,Ou.j (.mp 0),rF⟩
theorem aa7:zK GX 69 GV GU 36 (.mp 0) [4]:=by show _=_;kernel_rfl
theorem Xx:GY.Ok PG 69:=aQ (af aq0 (az PG)) aa7 (by kernel_rfl)
theorem aa8 (n) (a0) (a1):xY n (a0,a1) = (aK n (X:=jU × Bool × Int) (B:=jU × Bool) (fun self1 x0=> bif decide (x0.2.2<(a1.length:Int)) then (bnd a1.length x0.2.2 fun n2=> a1[n2]?.bind fun y3=> (wB ((x0.1.2.1,x0.1.2.2.1),y3)).bind fun r4=> (bif r4.1.2.2 then some (x0.1.1,r4.1.1,r4.1.2.1,x0.1.2.2.2) else some x0.1).bind fun x5=> (bif x0.2.1 then some r4.1.2.2 else some false).bind fun x6=> some (x5,x6):Option (jU × Bool)).bind fun x7=> self1 (x7.1,x7.2,IntKind.wrap .i64 (x0.2.2+1)) else some (x0.1,x0.2.1)) (a0,true,(0:Int))).bind fun x8=> some (x8.2,x8.1):=by kernel_rfl
def an5:TC:=
 (zS [dN 2 0,dN 3 1,D6 4 1000000005,zHq 5 1000000006,bO 6] (zQ (.seq (.join [⟨40,[.b],false⟩] 2199023247360 none (zR [Bc 13 2 7 63,Tv 15 14,n_ 17 3,xq 18 17 3,F9 19 2 1 18 3,TD 20 3 4 3 64 19 3,D_ 22 21 3 16,JH 25 11 3 0,n_ 27 11,xq 28 27 11,F9 29 2 3 28 11,zEh 30 26 29 11,jN 31 30 11,A_ 32 18 3 0,YN 34 18 2 3,zEz 37 36 18,zEv 38 33 37 18,F_ 31 38 39 39 11 24])) (zC 40 (zS [zDe 41,zHm 42,iY 4 41 4 41,iY 5 42 5 42,nZ 6 1] .ret) .skip)) (zS [Bc 43 2 7 65,D6 7 1000000008,iY 7 44 7 44] (zQ (zS [bR 45 3 0,YQ 47 2 3,pE 50 46 49] (zC 50 (zS [iZ 51 7 7,Gc 52 2 3 4,gI 54 66 53,DZ 51 4 51 4 51 51 7,iY 5 54 5 54,bO 6] .ret) .skip)) (zS [bR 55 3 0,[o1 57 (.build iL [(0,.t 56)])],zHq 8 1000000009,iY 8 57 8 57] (zQ (.join [⟨7,gN,false⟩,⟨8,iL,false⟩] 1237940038997149898747420544 none (zS [bR 58 3 1] (.block 0 (zS [yN 65 59 2 64] (zC 64 (zS [zIc 1000000010 1000000011 67 67,zJo 1000000010 1000000011 7 67 68 68,zMf 1000000010 1000000011 69 69 3 2,zIe 1000000010 1000000011 70 71 71,zIf 1000000010 1000000011 70 2 0 71 2 72 72,zKz 1000000010 1000000011 67 68 72 73 73 66 66 0 2,zLA 1000000010 1000000011 66 2 2 75 75 4 5,zIk 1000000011 9 1000000010 9,zIm 1000000010 10 1000000011 10,iY 9 74 9 74,eB 10 10 75,yL 11 76] (zQ (.join [⟨7,gN,false⟩] 2115915332230780408562304 none (zS [au 78 12] (zC 78 (zR [iZ 79 9 2,jy 80,zJp 79 7 80 79 7 79 79 9 68]) .skip))) (zR [au 81 12,M9 82 8 8 1 81]))) (zS [yN 84 59 3 83] (zC 83 (zS [bR 85 3 3,zGB 68 7 86 87 7 87,jy 88,zGf 8 87 8 2 88 87] (zR [jy 89,[o4 1 [8] (.store 8 [] 1 (.t 89) (.c [.b] [.bool true]))]])) (zR [bR 60 3 2,zGB 69 7 61 62 7 62,M9 63 8 8 1 62])))))))) (zS [jy 90,[o1 91 (.load 7 [] 1 (.t 90) 2 true)],gI 92 70 91,jy 93,zGf 8 92 8 3 93 92] (zS [iZ 94 8 4,gI 95 66 94,zMc 96 7 95 91 7 3 95] (zS [iZ 97 7 7,zJq 4 7 4 98 98,DZ 97 4 97 4 97 97 7,zJr 98 5 98 5 98 98 8 94,bO 6] .ret)))))))))
def an6:aM:=⟨[.rd true OA,.rd true OC],(.tup [(true,7),(true,4),(false,1)] [.d,.d,.sl (.own none) [.d,.d,.d,.d],.d,.d,.sl (.own none) [.d,.d],.sl (.own none) [.d],.d,.d,.sl (.own none) [.d,.d],.sl (.own none) [.d],.d])⟩
def an7:aL:=aG [(63,aaS),(64,LY),(65,QO),(66,BP),(67,Mm),(68,Ff),(69,GY),(70,E8)]
def SC (n:Nat):jU × Eb->Option (Zt4 × Unit):=aI n an7 an5 [gN,kH] Ty4 [] [4,5,6] .no
def oZ:=SC BIG
def an8:TSp:=⟨an6,[gN,kH],Ty4,[],Ou.j .no,oZ⟩
theorem az1:zK an7 14 an6 an5 99 .no [4,5,6]:=by show _=_;kernel_rfl
theorem awQ:an8.Ok PG 14:=aQ (af al_ (af UV (af agf (af J9 (af VJ (af Te (af Xx (af Nz (az PG))))))))) az1 (by kernel_rfl)
theorem an9 (n) (a0) (a1):SC n (a0,a1) = ((C9 a0).bind fun r0=> bif !r0.1 then some true else (CY (a0.2.1,a1)).bind fun r1=> bif !r1.1 then some true else bif !decide (a1.1=a0.2.2.2.1) then some (!decide (a1.1=(IntKind.wrap .i64 (a0.2.2.2.1+1)))) else some false).bind fun x2=> bif x2 then some (((0:Int),(0:Int),[],(0:Int),false,[],[],(0:Int),false,[],[],(1:Int)),()) else (E_ a0).bind fun r3=> bif decide (a1.1=a0.2.2.2.1) then (lL a0.2.2.2).bind fun r4=> some ((r3.1.1,r3.1.2.1,r3.1.2.2.1,r3.1.2.2.2.1,r3.1.2.2.2.2.1,r3.1.2.2.2.2.2.1,r3.1.2.2.2.2.2.2,r4.1.1,r4.1.2.1,r4.1.2.2.1,r4.1.2.2.2,(0:Int)),()) else (bif decide (a1.2.1=2) then bnd a1.2.2.1.length (0:Int) fun n5=> a1.2.2.1[n5]?.bind fun y6=> (jX ((r3.1.2.1,r3.1.2.2.1),y6)).bind fun r7=> (bif r7.1.2.2.2.2.2 then some (r3.1.1,r7.1.1,r7.1.2.1,r3.1.2.2.2) else some r3.1).bind fun x8=> some (x8,(a1.1,r7.1.2.2.2.2.2,[],[])) else bif decide (a1.2.1=3) then (p9 (r3.1,a1.2.2.2)).bind fun r9=> some (r9.2,(a1.1,true,r9.1,[])) else (rF (r3.1,a1.2.2.1)).bind fun r10=> some (r10.2,(a1.1,r10.1,[],[])):Option (jU × oV)).bind fun x11=> (mY (x11.1.2.1,x11.1.2.2.1)).bind fun r12=> (lL (x11.2.1,x11.2.2.1,x11.2.2.2.1,r12.1)).bind fun r13=> some ((x11.1.1,x11.1.2.1,x11.1.2.2.1,r13.1.1,r13.1.2.1,r13.1.2.2.1,r13.1.2.2.2,x11.2.1,x11.2.2.1,x11.2.2.2.1,r12.1,(0:Int)),()):=by kernel_rfl
def QQ:TC:=
 (zS [D6 6 1000000007,bB 7] (zS [dz 16 0 1,jO 18 113 16 17,Ea 18 15 18 7 7,D6 8 1000000009,pF 8 19 8 19] (zQ (zS [au 21 9,jT 22 21] (zC 22 (zS [zDe 23,Ce 6 23 6 23] .ret) .skip)) (zQ (.join [⟨6,gN,false⟩,⟨8,gN,false⟩] 281474959964608 (some [⟨6,gN,false⟩,⟨7,[.b],false⟩]) (zS [M7 24 2] (.block 0 (.loop [⟨6,gN,false⟩,⟨8,gN,false⟩,⟨26,[.i .i64],false⟩] 281474909632960 (zS [gH 27 26 25] (zQ (zC 27 .skip (.exit 0)) (zQ (.join [⟨6,gN,false⟩,⟨8,gN,false⟩] 140737219951040 (some [⟨6,gN,false⟩,⟨7,[.b],false⟩]) (.block 1 (zS [kW 28 24 26 14 14,zJj,eB 11 11 29] (zS [iZ 31 8 7,Gc 32 11 10 4,jO 34 14 31 33,zKa 34 30 34 7,zIn 30 7 4 36 30,xh 37 30 11,D6 12 1000000013,zHq 13 1000000014,iY 12 35 12 35,pF 13 36 13 36] (zQ (.seq (.join [⟨44,[.b],false⟩] 34909494181888 none (zR [bR 38 11 0,zDi 40 39 3,au 41 40,jN 42 14 3,zID 43 42 3,ru 41 43 44])) (zC 44 (zS [zDe 45,Ce 6 45 6 45] .ret) .skip)) (zR [iZ 46 12 7,zJr 46 8 46 8 46 46 12 31])))))) (zR [mV 47 26])))))))) (zS [xu 48 8 7 6 6 8,ic 7] .ret)))))
def QR:aM:=⟨[.rd false [.d],.rd false [.d],.rd false Ct2],(.tup [(true,7),(false,1)] Ct3)⟩
def QS:aL:=aG [(113,Vq),(14,an8)]
def Fg (n:Nat):Int × Int × (List Zt7)->Option (Zt8 × Unit):=aI n QS QQ [[.i .i64],[.i .i64],yE] Ty8 [] [6,7] .no
def Fh:=Fg BIG
def QT:TSp:=⟨QR,[[.i .i64],[.i .i64],yE],Ty8,[],Ou.j .no,Fh⟩
theorem ajr:zK QS 34 QR QQ 49 .no [6,7]:=by show _=_;kernel_rfl
theorem agh:QT.Ok PG 34:=aQ (af ai5 (af awQ (az PG))) ajr (by kernel_rfl)
theorem ajs (n) (a0) (a1) (a2):Fg n (a0,a1,a2) =
 (I6 (a0,a1)).bind fun r0=>
 bif !r0.1.2.2.2.2.2.2.2 then
  some (((0:Int),(0:Int),[],(0:Int),false,[],[],false),())
 else (aK n (X:=jU × jU × Int) (B:=(jU × jU) ⊕ (jU × Bool)) (fun self2 x1=>
  bif decide (x1.2.2<(a2.length:Int)) then
   (bnd a2.length x1.2.2 fun n3=>
    a2[n3]?.bind fun y4=>
    (oZ (x1.2.1,y4.2.2.2.2.2.2.2.2.2.2)).bind fun r5=>
    (bif !decide (y4.1=3) then
     some true
     else some (!decide (r5.1.2.2.2.2.2.2.2.2.2.2.2=0))).bind fun x6=>
    bif x6 then
     some (Sum.inr (((0:Int),(0:Int),[],(0:Int),false,[],[]),false))
    else some (Sum.inl (x1.1,(r5.1.1,r5.1.2.1,r5.1.2.2.1,r5.1.2.2.2.1,r5.1.2.2.2.2.1,r5.1.2.2.2.2.2.1,r5.1.2.2.2.2.2.2.1))):Option ((jU × jU) ⊕ (jU × Bool))).bind fun y=>match y with
   | .inl x7=>
    self2 (x7.1,x7.2,IntKind.wrap .i64 (x1.2.2+1))
   | .inr x7=>
    some (Sum.inr (x7.1,x7.2))
  else some (Sum.inl (x1.1,x1.2.1))) (((0:Int),(0:Int),[],(0:Int),false,[],[]),(r0.1.1,r0.1.2.1,r0.1.2.2.1,r0.1.2.2.2.1,r0.1.2.2.2.2.1,r0.1.2.2.2.2.2.1,r0.1.2.2.2.2.2.2.1),(0:Int))).bind fun y=>match y with
 | .inl x8=>
  some ((x8.2.1,x8.2.2.1,x8.2.2.2.1,x8.2.2.2.2.1,x8.2.2.2.2.2.1,x8.2.2.2.2.2.2.1,x8.2.2.2.2.2.2.2,true),())
 | .inr x8=>
  some ((x8.1.1,x8.1.2.1,x8.1.2.2.1,x8.1.2.2.2.1,x8.1.2.2.2.2.1,x8.1.2.2.2.2.2.1,x8.1.2.2.2.2.2.2,x8.2),()):=by kernel_rfl
def QU:TC:=
 (zS [D6 6 1000000007,bB 7] (zS [dz 15 0 1,jO 17 114 15 16,Ea 17 14 17 7 7,D6 8 1000000009,pF 8 18 8 18] (zQ (.join [⟨9,[.b],false⟩,⟨8,gN,false⟩] 2251799812652800 none (zS [bO 10] (.block 0 (.loop [⟨9,[.b],false⟩,⟨8,gN,false⟩,⟨10,[.i .i64],false⟩] 2251799812652800 (zQ (.seq (.join [⟨26,[.b],false⟩] 133169152 none (zR [Cb 20 10 2,Cc 24 23 9 4,pu 24 25 26])) (zC 26 .skip (.exit 0))) (zQ (.join [⟨9,[.b],false⟩,⟨8,gN,false⟩] 2251799276829440 none (.block 1 (zS [dz 31 2 10,zJq 1000000012 1000000013 7 30 30,zIx 1000000012 1000000013 31 32 33 33,zJn 1000000012 1000000013,zIf 1000000012 1000000013 31 14 10 34 4 35 35,zKz 1000000012 1000000013 40 30 35 36 36 29 29 0 7,zIy 1000000012 1000000013 29 7 4 38 29 38,zIj 1000000012 1000000013 29 11 39 39,zIz 1000000013 11 1000000012 11,zIA 1000000012 12 1000000013 12,iY 11 37 11 37,pF 12 38 12 38] (zQ (.join [⟨9,[.b],false⟩] 1124800395215360 none (zR [dz 40 2 10,Tx 42 40 41 14,xm 45 44 3,Cc 46 45 13 6,OG 48 47 6,nG 46 48 49 9])) (zR [iZ 50 11 7,zJr 50 8 50 8 50 50 11 30]))))) (zR [JK 27 10]))))))) (zQ (zS [au 51 9,jT 52 51] (zC 52 (zS [zDe 53,Ce 6 53 6 53] .ret) .skip)) (zS [iZ 54 8 7,gI 55 115 54,iY 6 55 6 55,ic 7] .ret)))))
def QV:aM:=⟨[.rd false [.d],.rd false [.d],.rd false Ct2],(.tup [(true,7),(false,1)] Ct3)⟩
def QW:aL:=aG [(114,Ii),(40,acB),(115,LC)]
def Fj (n:Nat):Int × Int × (List Zt7)->Option (Zt8 × Unit):=aI n QW QU [[.i .i64],[.i .i64],yE] Ty8 [] [6,7] .no
def Fp:=Fj BIG
def QY:TSp:=⟨QV,[[.i .i64],[.i .i64],yE],Ty8,[],Ou.j .no,Fp⟩
theorem ajt:zK QW 35 QV QU 56 .no [6,7]:=by show _=_;kernel_rfl
theorem agi:QY.Ok PG 35:=aQ (af OZ (af aix (af Uu (az PG)))) ajt (by kernel_rfl)
theorem aju (n) (a0) (a1) (a2):Fj n (a0,a1,a2) = (Ag (a0,a1)).bind fun r0=> (aK n (X:=Bool × jU × Int) (B:=Bool × jU) (fun self2 x1=> (bif decide (x1.2.2<(a2.length:Int)) then some x1.1 else some false).bind fun x3=> bif x3 then (bnd a2.length x1.2.2 fun n4=> a2[n4]?.bind fun y5=> (nK (x1.2.1,y5.2.2.2.2.2.2.2.2.2.2)).bind fun r6=> (bnd a2.length x1.2.2 fun n7=> a2[n7]?.bind fun y8=> bif decide (y8.1=3) then some (decide (r6.1.2.2.2.2.2.2.2.2.2.2.2=0)) else some false).bind fun x9=> some (x9,(r6.1.1,r6.1.2.1,r6.1.2.2.1,r6.1.2.2.2.1,r6.1.2.2.2.2.1,r6.1.2.2.2.2.2.1,r6.1.2.2.2.2.2.2.1))).bind fun x10=> self2 (x10.1,x10.2,IntKind.wrap .i64 (x1.2.2+1)) else some (x1.1,x1.2.1)) (r0.1.2.2.2.2.2.2.2,(r0.1.1,r0.1.2.1,r0.1.2.2.1,r0.1.2.2.2.1,r0.1.2.2.2.2.1,r0.1.2.2.2.2.2.1,r0.1.2.2.2.2.2.2.1),(0:Int))).bind fun x11=> bif !x11.1 then some (((0:Int),(0:Int),[],(0:Int),false,[],[],false),()) else (p8 x11.2).bind fun r12=> some ((r12.1.1,r12.1.2.1,r12.1.2.2.1,r12.1.2.2.2.1,r12.1.2.2.2.2.1,r12.1.2.2.2.2.2.1,r12.1.2.2.2.2.2.2,true),()):=by kernel_rfl
def aa9:TC:=
 (zS [dN 2 0,kX 3 1] (zQ (.seq (.join [⟨19,[.b],false⟩] 1048512 none (zR [iV 6 2 0 6,iV 8 3 0 8,xn 10 7 9,M8 11 10 5 2 1 5,JG 14 13 5,Ba 15 5 3 1 5,JG 17 16 5,JJ 18 14 17 5 11])) (zC 19 (zS [bB 4] .ret) .skip)) (zQ (.join [] 274876858416 (some [⟨4,[.b],false⟩]) (zS [bO 5] (.block 0 (.loop [⟨5,[.i .i64],false⟩] 274876858416 (zQ (zS [OL 20 5 2 1 23] (zC 24 .skip (.exit 0))) (zQ (.block 1 (zS [au 29 5,au 34 5,bR 27 2 1,kW 30 28 29 4 4,bR 32 3 1,kW 35 33 34 4 4,[o1 37 (.eqA [.i,.i,.i,.b] (.t 31) (.t 36) true)]] (zC 37 (zS [bB 4] .ret) .skip))) (zR [ig 25 5 5]))))))) (zS [ic 4] .ret))))
def aa_:aM:=⟨[.rd true nJ,.rd true nJ],(.one false [.d])⟩
def aba:aL:=aG []
def Ms (n:Nat):eD × eD->Option ((Bool) × Unit):=aI n aba aa9 [bK,bK] [.b] [] [4] .no
def Mt:=Ms BIG
def abb:TSp:=⟨aa_,[bK,bK],[.b],[],Ou.j .no,Mt⟩
theorem aq1:zK aba 36 aa_ aa9 38 .no [4]:=by show _=_;kernel_rfl
theorem amd:abb.Ok PG 36:=aQ (az PG) aq1 (by kernel_rfl)
theorem aq2 (n) (a0) (a1):Ms n (a0,a1) = (bif !decide (a0.1=a1.1) then some true else some (!decide ((a0.2.length:Int)=(a1.2.length:Int)))).bind fun x0=> bif x0 then some (false,()) else (aK n (X:=Int) (B:=(Unit) ⊕ (Bool)) (fun self2 x1=> bif decide (x1<(a0.2.length:Int)) then bnd a0.2.length x1 fun n3=> a0.2[n3]?.bind fun y4=> bnd a1.2.length x1 fun n5=> a1.2[n5]?.bind fun y6=> bif !(decide (y4.1=y6.1)&&(decide (y4.2.1=y6.2.1)&&(decide (y4.2.2.1=y6.2.2.1)&&((y4.2.2.2 == y6.2.2.2)&&true)))) then some (Sum.inr false) else self2 (IntKind.wrap .i64 (x1+1)) else some (Sum.inl ())) (0:Int)).bind fun y=>match y with | .inl x7=> some (true,()) | .inr x7=> some (x7,()):=by kernel_rfl
def QZ:TC:=
 (zS [bB 2] (zQ (zS [au 20 0,gI 21 7 20] (zC 21 (zS [ic 2] .ret) .skip)) (zS [au 23 0,YR 24 29 23 22,xh 25 22 0,xh 26 22 1,zIn 22 2 1 27 22,yL 3 25,dK 27 5 27] (zS [dz 29 3 4,gp 31 5,D9 32 30 29 30 31,Ty 32 28 32 15,qi 6 1000000007,pF 6 33 6 33] (zS [dz 36 3 4,gp 38 5,D9 39 31 36 37 38,Ty 39 35 39 15,qi 8 1000000009,pF 8 40 8 40] (zQ (.seq (.join [⟨72,[.b],false⟩] 9444732961341243916288 none (zR [au 42 7,Tv 43 42,n_ 45 2,M4 46 6 14 45 2,n_ 47 2,M4 48 8 14 47 2,yH 17 46 48 49 49 2,D_ 50 49 2 44,n_ 53 10,M4 54 6 2 53 10,n_ 55 10,M4 56 8 2 55 10,yH 20 54 56 57 57 10,D_ 58 57 10 52,n_ 61 18,M4 62 6 1 61 18,n_ 63 18,M4 64 8 1 63 18,yH 21 62 64 65 65 18,D_ 66 65 18 60,[o2 69 (.load 6 [] 0 .nil 15 true) 26 false],Tq 12 69 70 70 26,tZ 71 70 26 68])) (zC 72 (zS [bB 2] .ret) .skip)) (zS [au 73 0,gI 74 32 73,zHf 75 74,YI 76 74 1 75,gp 77 5,mr 78 77,BZ 79 78,zAA 80 76 79,au 10 80] (zS [dz 82 3 4,zHi 5 84 5 31 38 77 84,au 85 10,[⟨true,[],[],.det 2 (.res 84 none (some (.t 85))),[86,84],(some 86),none⟩],D9 87 30 82 83 86,Ty 87 81 87 15,qi 11 1000000012,pF 11 88 11 88] (zQ (.seq (.join [⟨112,[.b],false⟩] 10384592479129615971680717759315968 none (zR [au 90 12,Tv 91 90,n_ 93 2,M4 94 11 14 93 2,JG 95 94 2,n_ 96 2,M4 97 6 14 96 2,JG 98 97 2,[o2 99 (.data (.bin .gtr) [.t 95,.t 98]) 2 false],ru 92 99 100,au 101 100,n_ 102 11,M4 103 11 14 102 11,n_ 104 11,M4 105 6 14 104 11,n_ 106 11,M4 107 11 14 106 11,JG 108 107 11,[o2 109 (.res 105 none (some (.t 108))) 11 false],yH 17 103 109 110 110 11,tZ 111 110 11 101])) (zC 112 (zS [bB 2] .ret) .skip)) (zS [au 114 0,YR 115 33 114 113,xh 116 113 0,xh 117 113 1,xh 118 113 2,yL 13 116,au 15 118] (zS [yL 120 13,au 122 15,D9 123 34 120 121 122,Ea 123 119 123 7 7,D6 16 1000000017,pF 16 124 16 124] (zS [yL 127 13,au 129 15,D9 130 35 127 128 129,Ea 130 126 130 7 7,D6 18 1000000019,pF 18 131 18 131] (zQ (.join [⟨2,[.b],false⟩] 11139483563523841539937031148886364170223620 none (zR [au 133 17,au 134 19,[o1 135 (.data (.beq false) [.t 133,.t 134])],au 136 135,ry 137 3,zJg 138 16 137 2,ry 139 3,zJg 140 18 139 2,qj 36 138 140 141 141 3,nG 136 141 142 2])) .ret)))))))))))))
def Q0:aM:=⟨[.rd false fG],(.one false [.d])⟩
def Q3:aL:=aG [(7,atn),(29,JZ),(30,U8),(31,Ve),(17,Vi),(20,Qx),(21,Vm),(12,GM),(32,Ny),(33,EW),(34,QT),(35,QY),(36,abb)]
def Fq (n:Nat):List (Int)->Option ((Bool) × Unit):=aI n Q3 QZ [[.sl [.i .u8]]] [.b] [] [2] .no
def Q4:=Fq BIG
def ajv:TSp:=⟨Q0,[[.sl [.i .u8]]],[.b],[],Ou.j .no,Q4⟩
theorem ajw:zK Q3 6 Q0 QZ 143 .no [2]:=by show _=_;kernel_rfl
theorem agj:ajv.Ok PG 6:=aQ (af azJ (af aak (af aiZ (af ai0 (af ai1 (af af_ (af ai4 (af LZ (af acO (af Td (af agh (af agi (af amd (az PG)))))))))))))) ajw (by kernel_rfl)
theorem ajx (n) (a0):Fq n a0 = (ah_ a0).bind fun r0=> bif r0.1 then some (true,()) else (zD a0).bind fun r1=> (Aw (r1.1.1,r1.1.2.1,r1.1.2.2)).bind fun r2=> (IY (r1.1.1,r1.1.2.1,r1.1.2.2)).bind fun r3=> (bif !r2.1.2.2.2.2.2.2.2.2.2.2.2.2.2.2.2 then some true else (qH (r2.1.2.2.2.2.2.2.2.2.2.2.2.2.2.2.1,r3.1.2.2.2.2.2.2.2.2.2.2.2.2.2.2.1)).bind fun r4=> bif !r4.1 then some true else (ER (r2.1.2.2.1,r3.1.2.2.1)).bind fun r5=> bif !r5.1 then some true else (I4 (r2.1.2.1,r3.1.2.1)).bind fun r6=> bif !r6.1 then some true else (wz (r2.1.1,r2.1.2.1,r2.1.2.2.1,r2.1.2.2.2.1,r2.1.2.2.2.2.1,r2.1.2.2.2.2.2.1,r2.1.2.2.2.2.2.2.1,r2.1.2.2.2.2.2.2.2.1,r2.1.2.2.2.2.2.2.2.2.1,r2.1.2.2.2.2.2.2.2.2.2.1,r2.1.2.2.2.2.2.2.2.2.2.2.1,r2.1.2.2.2.2.2.2.2.2.2.2.2.1,r2.1.2.2.2.2.2.2.2.2.2.2.2.2.1,r2.1.2.2.2.2.2.2.2.2.2.2.2.2.2.1,r2.1.2.2.2.2.2.2.2.2.2.2.2.2.2.2.1)).bind fun r7=> some !r7.1).bind fun x8=> bif x8 then some (false,()) else (uU a0).bind fun r9=> bnd r9.1.length (0:Int) fun n10=> r9.1[n10]?.bind fun y11=> bif decide ((IntKind.wrap .i64 ((r1.1.2.2.length:Int)+1))=0) then none else bif decide (0<=(Int.tmod y11 (IntKind.wrap .i64 ((r1.1.2.2.length:Int)+1)))) then bif decide (0<=(Int.toNat (Int.tmod y11 (IntKind.wrap .i64 ((r1.1.2.2.length:Int)+1))))/\(Int.toNat (Int.tmod y11 (IntKind.wrap .i64 ((r1.1.2.2.length:Int)+1))))<=r1.1.2.2.length) then (Aw (r1.1.1,r1.1.2.1,List.take ((Int.toNat (Int.tmod y11 (IntKind.wrap .i64 ((r1.1.2.2.length:Int)+1))))-0) (List.drop 0 r1.1.2.2))).bind fun r12=> (bif !r12.1.2.2.2.2.2.2.2.2.2.2.2.2.2.2.2 then some true else bif decide ((r2.1.2.2.2.2.2.2.2.2.2.2.2.2.2.2.1.length:Int)<(r12.1.2.2.2.2.2.2.2.2.2.2.2.2.2.2.1.length:Int)) then some true else bif decide (0<=(r12.1.2.2.2.2.2.2.2.2.2.2.2.2.2.2.1.length:Int)) then bif decide (0<=(Int.toNat (r12.1.2.2.2.2.2.2.2.2.2.2.2.2.2.2.1.length:Int))/\(Int.toNat (r12.1.2.2.2.2.2.2.2.2.2.2.2.2.2.2.1.length:Int))<=r2.1.2.2.2.2.2.2.2.2.2.2.2.2.2.2.1.length) then (qH (r12.1.2.2.2.2.2.2.2.2.2.2.2.2.2.2.1,List.take ((Int.toNat (r12.1.2.2.2.2.2.2.2.2.2.2.2.2.2.2.1.length:Int))-0) (List.drop 0 r2.1.2.2.2.2.2.2.2.2.2.2.2.2.2.2.1))).bind fun r13=> some !r13.1 else none else none).bind fun x14=> bif x14 then some (false,()) else (vN a0).bind fun r15=> (Fh (r15.1.1,r15.1.2.1,r15.1.2.2)).bind fun r16=> (Fp (r15.1.1,r15.1.2.1,r15.1.2.2)).bind fun r17=> (bif (r16.1.2.2.2.2.2.2.2 == r17.1.2.2.2.2.2.2.2) then (Mt ((r16.1.2.1,r16.1.2.2.1),(r17.1.2.1,r17.1.2.2.1))).bind fun r18=> some r18.1 else some false).bind fun x19=> some (x19,()) else none else none:=by kernel_rfl
end
end Go.Fw
