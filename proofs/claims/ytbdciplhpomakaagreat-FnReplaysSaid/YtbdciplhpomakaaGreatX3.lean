/- The given functions, as what they compute; each is shown to be what the code does. No conditions. -/
import Derived.Test.YtbdciplhpomakaaGreatX2
set_option linter.unusedSectionVars false
namespace Go.Fw
noncomputable section
def aas:TC:=
 (zS [dK 2 0,bz 4] (zS [dM 8 2 2,au 9 1,zMx 10 154 8 9 5] (zQ (.join [] 4294965392 (some [⟨4,[.b],false⟩]) (zS [dM 11 2 2,au 12 1,jI 13 199 11 12,rX 14 13] (.block 0 (.loop [⟨15,[.i .i64],false⟩] 4294934672 (zS [gy 16 15 14] (zQ (zC 16 .skip (.exit 0)) (zQ (.block 1 (zS [kN 17 13 15 2 2,qX 7 1000000008,dR 7 7 18] (zS [gN 19 5,gN 20 5,au 28 1,Oj 21 7 0 20 5 1,jI 25 197 19 24,bO 26 2 0,[o1 29 (.data (.bin .shr) [.t 27,.t 28]),o1 30 (.data (.bin .gtr) [.t 25,.t 29])]] (zC 30 (zS [bz 4] .ret) .skip)))) (zR [mM 31 15])))))))) (zS [gX 4] .ret))))
def aat:aL:=⟨[.rd true nE,.rd false [.d]],(.one false [.d])⟩
def aau:aK:=aD [(154,qA),(199,Qk),(197,WX)]
def LM (n:Nat):eB × Int->Option ((Bool) × Unit):=aH n aau aas [bH,[.i .i64]] [.b] [] [4] .no
def LP:=LM BIG
def aav:TSp:=⟨aat,[bH,[.i .i64]],[.b],[],Ou.j .no,LP⟩
theorem aqo:zK aau 196 aat aas 32 .no [4]:=by show _=_;kernel_rfl
theorem alG:aav.Ok PG 196:=aO (ae si (ae aar (ae ae6 (ay PG)))) aqo (by kernel_rfl)
theorem aqp (n) (a0) (a1):LM n (a0,a1) = (og (a0,a1)).bind fun r0=> ((Gw (a0,a1)).bind fun r1=> aJ n (X:=Int) (B:=(Unit) ⊕ (Bool)) (fun self3 x2=> bif decide (x2<(r1.1.length:Int)) then bnd r1.1.length x2 fun n4=> r1.1[n4]?.bind fun y5=> bnd r0.1.length y5.1 fun n6=> r0.1[n6]?.bind fun y7=> (EL (r0.1,y7)).bind fun r8=> bif decide (a1<0) then none else bif decide ((Int.fdiv a0.1 (2 ^ (Nat.min (Int.toNat a1) (IntKind.bits .i64))))<r8.1) then some (Sum.inr false) else self3 (IntKind.wrap .i64 (x2+1)) else some (Sum.inl ())) (0:Int):Option ((Unit) ⊕ (Bool))).bind fun y=>match y with | .inl x9=> some (true,()) | .inr x9=> some (x9,()):=by kernel_rfl
def aiV:TC:=
 (zS [kP 1 0] (zQ (.seq (.join [⟨17,[.b],false⟩] 262016 none (zR [dM 7 1 2,gz 8 150 7,gz 9 193 8,FX 10 9 4 1 0 4,BP 14 1 2 4,SH 195 14 15 15 4,yx 194 13 15 16 16 4,qU 11 16 17])) (zC 17 (zS [bz 2] .ret) .skip)) (zQ (.join [] 1125899906580532 (some [⟨2,[.b],false⟩]) (zS [bO 18 1 1,rX 20 19] (.block 0 (.loop [⟨21,[.i .i64],false⟩] 1125899904745524 (zS [gy 22 21 20] (zQ (zC 22 .skip (.exit 0)) (zQ (.join [] 562949945032756 (some [⟨2,[.b],false⟩]) (.block 1 (zS [kN 23 19 21 4 4,SI 4 1000000005,dR 4 4 24] (zQ (zS [bO 25 4 2,[o3 27 48 [.t 26,kO 0,kO 4]],jN 28 27] (zC 28 (zS [bz 2] .ret) .skip)) (zS [dM 29 1 2,bO 30 4 2,zMx 32 154 29 31 5] (zQ (.join [⟨48,[.b],false⟩] 562941363486720 none (zR [bO 33 4 3,zKa 35 34,SL 5 37 37 3,vV 38 3 4 0 3,qW 40 37 39 3,BN 41 5 1 40 3,SL 5 42 42 3,vV 43 3 4 1 3,qW 45 42 44 3,BN 46 5 1 45 3,zEv 47 41 46 3,oW 36 47 48])) (zC 48 (zS [bz 2] .ret) .skip))))))) (zR [mM 49 21])))))))) (zQ (.join [] 287104476244869188 (some [⟨2,[.b],false⟩]) (zS [nU 6 1] (.block 2 (.loop [⟨6,[.i .i64],false⟩] 287104476244869188 (zQ (zS [au 50 6,zAy 51 50 4] (zC 51 .skip (.exit 2))) (zQ (.block 3 (zS [dM 54 1 2,au 55 6,jI 56 196 54 55,jN 57 56] (zC 57 (zS [bz 2] .ret) .skip))) (zR [gY 52 6 6]))))))) (zS [gX 2] .ret)))))
def aiW:aL:=⟨[.rd true nE],(.one false [.d])⟩
def aiX:aK:=aD [(150,xL),(193,LK),(195,Qi),(194,aiR),(48,kX),(154,qA),(196,aav)]
def WY (n:Nat):eB->Option ((Bool) × Unit):=aH n aiX aiV [bH] [.b] [] [2] .no
def zD:=WY BIG
def EM:TSp:=⟨aiW,[bH],[.b],[],Ou.j .no,zD⟩
theorem awk:zK aiX 146 aiW aiV 58 .no [2]:=by show _=_;kernel_rfl
theorem Gx:EM.Ok PG 146:=aO (ae Am (ae U2 (ae afS (ae atM (ae jQ (ae si (ae alG (ay PG)))))))) awk (by kernel_rfl)
theorem awl (n) (a0):WY n a0 =
 ((lV a0).bind fun r0=>
  (CP r0.1).bind fun r1=>
  bif !r1.1 then
   some true
  else (EJ a0).bind fun r2=>
  (WV (a0.1,r2.1)).bind fun r3=>
  some r3.1).bind fun x4=>
 bif x4 then
  some (false,())
 else (aJ n (X:=Int) (B:=(Unit) ⊕ (Bool)) (fun self6 x5=>
  bif decide (x5<(a0.2.length:Int)) then
   (bnd a0.2.length x5 fun n7=>
    a0.2[n7]?.bind fun y8=>
    (fq (y8.2.2.1,(0:Int),(4:Int))).bind fun r9=>
    bif !r9.1 then
     some (Sum.inr false)
    else (og (a0,y8.2.2.1)).bind fun r10=>
    (bif !y8.2.2.2 then
     bnd r10.1.length y8.1 fun n11=>
     r10.1[n11]?.bind fun y12=>
     bnd r10.1.length y8.2.1 fun n13=>
     r10.1[n13]?.bind fun y14=>
     some (!decide (y12=y14))
     else some false).bind fun x15=>
    bif x15 then
     some (Sum.inr false)
    else some (Sum.inl ())).bind fun y=>match y with
   | .inl x16=>
    self6 (IntKind.wrap .i64 (x5+1))
   | .inr x16=>
    some (Sum.inr x16)
  else some (Sum.inl ())) (0:Int)).bind fun y=>match y with
 | .inl x17=>
  (aJ n (X:=Int) (B:=(Unit) ⊕ (Bool)) (fun self19 x18=>
   bif decide (x18<=4) then
    (LP (a0,x18)).bind fun r20=>
    bif !r20.1 then
     some (Sum.inr false)
    else self19 (IntKind.wrap .i64 (x18+1))
   else some (Sum.inl ())) (1:Int)).bind fun y=>match y with
  | .inl x21=>
   some (true,())
  | .inr x21=>
   some (x21,())
 | .inr x17=>
  some (x17,()):=by kernel_rfl
def U6:TC:=
 (zS [kP 1 0] (zQ (.join [⟨2,[.b],false⟩] 8388604 none (zR [iP 3 1 0 3,wX 5 4 0,au 6 5,qV 7 3,BL 8 1 1 7 3,zEc 9 8 3,lC 6 9 10,vV 12 8 1 2 8,zHh 14 13 8,Oc 15 14 8,lC 11 15 16,AU 18 14 1 3,zHh 20 19 14,Oc 21 20 14,nA 17 21 22 2])) .ret))
def U7:aL:=⟨[.rd true MJ],(.one false [.d])⟩
def U8:aK:=aD []
def IQ (n:Nat):oK->Option ((Bool) × Unit):=aH n U8 U6 [iF] [.b] [] [2] .no
def IR:=IQ BIG
def U9:TSp:=⟨U7,[iF],[.b],[],Ou.j .no,IR⟩
theorem alH:zK U8 83 U7 U6 23 .no [2]:=by show _=_;kernel_rfl
theorem aiY:U9.Ok PG 83:=aO (ay PG) alH (by kernel_rfl)
theorem alI (n) (a0):IQ n a0 = (bif decide (a0.1=0) then bif !a0.2.1 then bif decide ((a0.2.2.1.length:Int)=0) then some (decide ((a0.2.2.2.length:Int)=0)) else some false else some false else some false).bind fun x0=> some (x0,()):=by kernel_rfl
def Ql:TC:=
 (zS [dK 1 0,yu 2] (zQ (zS [dM 3 1 2,gz 4 146 3,jN 5 4] (zC 5 (zS [yu 2] .ret) .skip)) (zS [dM 6 1 2,zHm 7 154 6,dC 7 2 7] .ret)))
def Qm:aL:=⟨[.rd true nE],(.one false fF)⟩
def Qn:aK:=aD [(146,EM),(154,qA)]
def xM (n:Nat):eB->Option ((List Int) × Unit):=aH n Qn Ql [bH] [.sl [.i .i64]] [] [2] .no
def mQ:=xM BIG
def EN:TSp:=⟨Qm,[bH],[.sl [.i .i64]],[],Ou.j .no,mQ⟩
theorem aiZ:zK Qn 70 Qm Ql 8 .no [2]:=by show _=_;kernel_rfl
theorem Nf:EN.Ok PG 70:=aO (ae Gx (ae si (ay PG))) aiZ (by kernel_rfl)
theorem Qo (n) (a0):xM n a0 = (zD a0).bind fun r0=> bif !r0.1 then some ([],()) else (og (a0,(0:Int))).bind fun r1=> some (r1.1,()):=by kernel_rfl
def U_:TC:=
 (zS [bz 4] (zQ (zS [w_ 6 0 6,w_ 8 1 8,wY 10 7 9] (zC 10 (zS [bz 4] .ret) .skip)) (zQ (.join [] 67106864 (some [⟨4,[.b],false⟩]) (zS [MN 11 0] (.block 0 (.loop [⟨13,[.i .i64],false⟩] 67100720 (zS [gy 14 13 12] (zQ (zC 14 .skip (.exit 0)) (zQ (.block 1 (zS [MQ 15 13 5] (zS [df 16 0 5,df 20 1 5,nz 18 16 17 1,nz 22 20 21 1,wY 24 19 23] (zC 24 (zS [bz 4] .ret) .skip)))) (zR [mM 25 13])))))))) (zS [gX 4] .ret))))
def Vd:aL:=⟨[.rd false fF,.rd false fF],(.one false [.d])⟩
def Ve:aK:=aD []
def IU (n:Nat):List Int × List (Int)->Option ((Bool) × Unit):=aH n Ve U_ [[.sl [.i .i64]],[.sl [.i .i64]]] [.b] [] [4] .no
def IV:=IU BIG
def Vf:TSp:=⟨Vd,[[.sl [.i .i64]],[.sl [.i .i64]]],[.b],[],Ou.j .no,IV⟩
theorem alJ:zK Ve 147 Vd U_ 26 .no [4]:=by show _=_;kernel_rfl
theorem ai0:Vf.Ok PG 147:=aO (ay PG) alJ (by kernel_rfl)
theorem alK (n) (a0) (a1):IU n (a0,a1) = bif !decide ((a0.length:Int)=(a1.length:Int)) then some (false,()) else (aJ n (X:=Int) (B:=(Unit) ⊕ (Bool)) (fun self1 x0=> bif decide (x0<(a0.length:Int)) then bnd a0.length x0 fun n2=> a0[n2]?.bind fun y3=> bnd a1.length x0 fun n4=> a1[n4]?.bind fun y5=> bif !decide (y3=y5) then some (Sum.inr false) else self1 (IntKind.wrap .i64 (x0+1)) else some (Sum.inl ())) (0:Int)).bind fun y=>match y with | .inl x6=> some (true,()) | .inr x6=> some (x6,()):=by kernel_rfl
def aaw:TC:=
 (zS [kP 1 0] (zQ (.seq (.join [⟨12,[.b],false⟩] 8184 none (zR [iP 3 1 0 3,oZ 5 48 4 3,jN 6 5,au 7 6,rW 8 4,zHn 9 1 1 8 2 4,SH 146 9 10 10 4,tN 11 10 4 7])) (zC 12 (zS [bz 2] .ret) .skip)) (zQ (.join [⟨2,[.b],false⟩] 8589926404 none (zR [FU 13 1 3 4,gz 15 83 14,au 16 15,rW 17 3,wZ 18 17 3,BM 19 1 1 18 3,rW 20 3,zHn 21 1 3 20 4 3,yx 71 19 21 22 22 3,jH 23 22 3,Yu 24 10 1 6,qV 27 10,zEp 28 1 1 27 2 10,zHi 70 28 29 29 10,qa 147 26 29 30 30 10,FP 23 30 31 31 3 16,au 2 32])) .ret)))
def aax:aL:=⟨[.rd true N9],(.one false [.d])⟩
def aay:aK:=aD [(48,kX),(146,EM),(83,U9),(71,IB),(70,EN),(147,Vf)]
def LQ (n:Nat):jO->Option ((Bool) × Unit):=aH n aay aaw [gJ] [.b] [] [2] .no
def CQ:=LQ BIG
def aaz:TSp:=⟨aax,[gJ],[.b],[],Ou.j .no,CQ⟩
theorem aqr:zK aay 63 aax aaw 33 .no [2]:=by show _=_;kernel_rfl
theorem alL:aaz.Ok PG 63:=aO (ae jQ (ae Gx (ae aiY (ae P7 (ae Nf (ae ai0 (ay PG))))))) aqr (by kernel_rfl)
theorem aqs (n) (a0):LQ n a0 = ((fq (a0.1,(1:Int),(3:Int))).bind fun r0=> bif !r0.1 then some true else (zD (a0.2.1,a0.2.2.1)).bind fun r1=> some !r1.1).bind fun x2=> bif x2 then some (false,()) else ((IR a0.2.2.2).bind fun r3=> bif r3.1 then some true else (Ak (a0.2.1,a0.2.2.2)).bind fun r4=> bif r4.1 then (mQ (a0.2.1,a0.2.2.1)).bind fun r5=> (IV (a0.2.2.2.2.2.2,r5.1)).bind fun r6=> some r6.1 else some false).bind fun x7=> some (x7,()):=by kernel_rfl
def aaA:TC:=
 (zS [dK 1 0,DI 2 1000000003] (zS [iP 3 1 0 3,iP 5 1 1 5,zIC 7 6,[o5 (.build bH [(0,.t 4),(1,.t 7)]) 8 7],iZ 2 8 2 8] .ret))
def aaB:aL:=⟨[.rd true nE],(.one true nE)⟩
def aaC:aK:=aD []
def CR (n:Nat):eB->Option (eB × Unit):=aH n aaC aaA [bH] bH [] [2] .no
def xN:=CR BIG
def LU:TSp:=⟨aaB,[bH],bH,[],Ou.j .no,xN⟩
theorem aqt:zK aaC 148 aaB aaA 9 .no [2]:=by show _=_;kernel_rfl
theorem Vg:LU.Ok PG 148:=aO (ay PG) aqt (by kernel_rfl)
theorem aaD (n) (a0):CR n a0 = bif decide (a0.2.length<=4294967296) then some (a0,()) else none:=by kernel_rfl
def Ng:TC:=
 (zS [dK 1 0,zHp 2 1000000003] (zS [iP 3 1 2 3,gz 5 132 4,iP 6 1 3 6,gz 8 72 7,jq 9,FO 5 2 9 5,jq 10,FO 8 3 10 8] (zS [w9 11 1 4 2 2 1] .ret)))
def Nh:aL:=⟨[.rd true MJ],(.one true MJ)⟩
def Ni:aK:=aD [(132,xG),(72,Af)]
def BC (n:Nat):oK->Option (oK × Unit):=aH n Ni Ng [iF] iF [] [2] .no
def lw:=BC BIG
def BD:TSp:=⟨Nh,[iF],iF,[],Ou.j .no,lw⟩
theorem afT:zK Ni 66 Nh Ng 12 .no [2]:=by show _=_;kernel_rfl
theorem JR:BD.Ok PG 66:=aO (ae BA (ae En (ay PG))) afT (by kernel_rfl)
theorem afU (n) (a0):BC n a0 = (r_ a0.2.2.1).bind fun r0=> (mf a0.2.2.2).bind fun r1=> some ((a0.1,a0.2.1,r0.1,r1.1),()):=by kernel_rfl
def Qp:TC:=
 (zS [dK 1 0,DJ 2 1000000003] (zS [iP 3 1 0 3,jq 5,Jp 6 1 1 5 2,gz 7 148 6,jq 8,Jp 9 1 3 8 4,gz 10 66 9,[⟨false,[],[],.det 3 (.build gJ [(0,.t 4),(1,.t 7),(3,.t 10)]),[11,7,10],(some 11),none⟩],iZ 2 11 2 11] .ret))
def Qq:aL:=⟨[.rd true N9],(.one true N9)⟩
def Qr:aK:=aD [(148,LU),(66,BD)]
def EO (n:Nat):jO->Option (jO × Unit):=aH n Qr Qp [gJ] gJ [] [2] .no
def EP:=EO BIG
def Qs:TSp:=⟨Qq,[gJ],gJ,[],Ou.j .no,EP⟩
theorem ai1:zK Qr 65 Qq Qp 12 .no [2]:=by show _=_;kernel_rfl
theorem afV:Qs.Ok PG 65:=aO (ae Vg (ae JR (ay PG))) ai1 (by kernel_rfl)
theorem ai2 (n) (a0):EO n a0 = (xN (a0.2.1,a0.2.2.1)).bind fun r0=> (lw a0.2.2.2).bind fun r1=> some ((a0.1,r0.1.1,r0.1.2,r1.1),()):=by kernel_rfl
def aaE:TC:=
 (zS [dK 2 0,kP 3 1] (zS [iP 5 2 1 5,dM 7 3 2,jI 8 155 6 7,au 4 8] .ret))
def aaF:aL:=⟨[.rd true Oa,.rd true [.d,.d]],(.one false [.d])⟩
def aaG:aK:=aD [(155,CO)]
def LV (n:Nat):Bu × aP->Option ((Bool) × Unit):=aH n aaG aaE [kM,[.i .i64,.i .i64]] [.b] [] [4] .no
def CS:=LV BIG
def LW:TSp:=⟨aaF,[kM,[.i .i64,.i .i64]],[.b],[],Ou.j .no,CS⟩
theorem aqu:zK aaG 149 aaF aaE 9 .no [4]:=by show _=_;kernel_rfl
theorem Vh:LW.Ok PG 149:=aO (ae Iy (ay PG)) aqu (by kernel_rfl)
theorem aqv (n) (a0) (a1):LV n (a0,a1) = (xJ (a0.2,a1)).bind fun r0=> some (r0.1,()):=by kernel_rfl
def Vi:TC:=
 (zS [dK 4 1,qX 6 1000000007,bz 7] (zS [dA 15,rV 16 15,zJd 17 0 16 2,au 18 2,zMx 19 154 17 18 8] (zS [gN 20 8,Oj 21 4 0 20 8 1,au 9 24] (zQ (.join [⟨9,[.i .i64],false⟩] 35184338534912 none (zS [gN 25 8,gN 26 8,gN 32 8,gN 33 8,Oj 27 4 1 26 8 1,jI 31 197 25 30,Oj 34 4 0 33 8 1,jI 38 197 32 37,gy 39 31 38] (zC 39 (zR [gN 40 8,Oj 41 4 1 40 8 1,au 9 44]) .skip))) (zS [zJv 45 2,[o1 47 (.data .min [.t 46,kD 4])],au 10 47] (zQ (.join [⟨0,bH,false⟩] 1237940039285098799922419713 none (zS [FQ 48 1,rX 52 51] (.block 0 (.loop [⟨0,bH,false⟩,⟨53,[.i .i64],false⟩] 1237940039278624875458205697 (zS [gy 54 53 52] (zQ (zC 54 .skip (.exit 0)) (zQ (.join [⟨0,bH,false⟩] 618970019606661340430604289 none (.block 1 (zS [MQ 55 53 11] (zS [FQ 56 1,au 60 11,wW 61 59 60,rV 12 61] (zQ (.join [⟨84,[.b],false⟩] 38685621615982115163209728 none (zR [rV 62 12,ny 63 62,zJm 65 0 1 4 3 64,au 66 65,zJf 67 12 4,zJf 68 67 4,Jq 69 68 4,[o2 70 (.load 0 [(1,4)] 2 (.t 69) 1 false) 4 true],iE 71 2 4,DK 72 70 71 4,lC 66 72 73,SL 8 75 75 12,zJf 76 12 12,zJf 77 76 12,Jq 78 77 12,[o2 79 (.load 0 [(1,4)] 0 (.t 78) 1 false) 12 true],qW 80 75 79 12,BN 81 8 1 80 12,iE 82 9 12,DK 83 81 82 12,oW 74 83 84])) (zC 84 (zR [rV 85 12,au 86 10,ny 87 85,zBg 0 59 0 1 4 2 88 86]) .skip)))))) (zR [mM 89 53])))))))) (zQ (.join [⟨0,bH,false⟩,⟨6,[.i .i64,.i .i64],false⟩] 1496577676626844588240572030761434526747400024907969 (some [⟨6,[.i .i64,.i .i64],false⟩,⟨7,[.b],false⟩,⟨0,bH,false⟩]) (zS [FQ 90 1,rX 94 93] (.block 2 (.loop [⟨0,bH,false⟩,⟨6,[.i .i64,.i .i64],false⟩,⟨95,[.i .i64],false⟩] 1496577676626844588240543558140530963001077345050817 (zS [gy 96 95 94] (zQ (zC 96 .skip (.exit 2)) (zQ (.join [⟨0,bH,false⟩,⟨6,[.i .i64,.i .i64],false⟩] 748288838313422294120128178025708377388650374127809 (some [⟨6,[.i .i64,.i .i64],false⟩,⟨7,[.b],false⟩,⟨0,bH,false⟩]) (.block 3 (zS [MQ 97 95 13] (zS [FQ 98 1,au 102 13,wW 103 101 102,rV 14 103] (zQ (.seq (.join [⟨137,[.b],false⟩] 348449143706758576982843927586183397244928 none (zR [rV 104 14,ny 105 104,zJm 107 0 1 4 3 106,au 108 107,zJh 109 14 4,zJh 110 109 4,wZ 111 110 4,[o2 112 (.load 0 [(1,4)] 2 (.t 111) 1 false) 4 false],jH 113 2 4,Jt 114 112 113 4 108,au 116 115,zIn 8 117 117 12,zJh 118 14 12,zJh 119 118 12,wZ 120 119 12,[o2 121 (.load 0 [(1,4)] 0 (.t 120) 1 false) 12 false],zEf 122 117 121 12,Yr 123 8 1 122 12,jH 124 9 12,zEh 125 123 124 12,jH 126 125 12,SL 8 127 127 22,zJf 128 14 22,zJf 129 128 22,Jq 130 129 22,[o2 131 (.load 0 [(1,4)] 1 (.t 130) 1 false) 22 true],qW 132 127 131 22,BN 133 8 1 132 22,iE 134 9 22,zEv 135 133 134 22,FP 126 135 136 136 12 116])) (zC 137 (.exit 3) .skip)) (zQ (zS [gN 138 8,rV 139 14,gN 145 8,rV 146 14,ny 140 139,zGi 142 0 1 4 141,Js 143 138 142 8 1,ny 147 146,zJm 149 0 1 4 1 148,Js 150 145 149 8 1,wY 152 144 151] (zC 152 (zS [rV 153 14,ny 154 153,zHa 0 101 0 1 4 3 155] (zS [rV 156 14,rV 160 14,ny 157 156,zGi 159 0 1 4 158,ny 161 160,zJm 163 0 1 4 1 162,MK 164 159 163,dR 6 6 164,gX 7] .ret)) .skip)) (zR [rV 165 14,au 166 10,ny 167 165,zBg 0 101 0 1 4 2 168 166]))))))) (zR [mM 169 95])))))))) (zS [zHB 170,dR 6 6 170,bz 7] .ret))))))))
def Vj:aL:=⟨[.mp nE,.rd true [.d,.d],.rd false [.d]],(.tup [(true,2),(false,1)] [.d,.d,.d])⟩
def Vk:aK:=aD [(154,qA),(197,WX)]
def IW (n:Nat):eB × aP × Int->Option ((Int × Int × Bool) × Int × List lS):=aH n Vk Vi [bH,[.i .i64,.i .i64],[.i .i64]] [.i .i64,.i .i64,.b] bH [6,7] (.mp 0)
def qB:=IW BIG
def Vl:TSp:=⟨Vj,[bH,[.i .i64,.i .i64],[.i .i64]],[.i .i64,.i .i64,.b],bH,Ou.j (.mp 0),qB⟩
theorem alM:zK Vk 151 Vj Vi 171 (.mp 0) [6,7]:=by show _=_;kernel_rfl
theorem ai3:Vl.Ok PG 151:=aO (ae si (ae ae6 (ay PG))) alM (by kernel_rfl)
theorem alN (n) (a0) (a1) (a2):IW n (a0,a1,a2) =
 (og (a0,a2)).bind fun r0=>
 bnd r0.1.length a1.1 fun n1=>
 r0.1[n1]?.bind fun y2=>
 (bnd r0.1.length a1.2 fun n3=>
  r0.1[n3]?.bind fun y4=>
  (EL (r0.1,y4)).bind fun r5=>
  bnd r0.1.length a1.1 fun n6=>
  r0.1[n6]?.bind fun y7=>
  (EL (r0.1,y7)).bind fun r8=>
  bif decide (r5.1<r8.1) then
   bnd r0.1.length a1.2 fun n9=>
   r0.1[n9]?.bind fun y10=>
   some y10
  else some y2).bind fun x11=>
 (aJ n (X:=eB × Int) (B:=eB) (fun self13 x12=>
  bif decide (x12.2<(a0.2.length:Int)) then
   (bnd x12.1.2.length x12.2 fun n14=>
    (x12.1.2[n14]?.bind fun y15=>
     bif y15.2.2.2 then
      x12.1.2[n14]?.bind fun y16=>
      bif decide (y16.2.2.1=a2) then
       x12.1.2[n14]?.bind fun y17=>
       bnd r0.1.length y17.1 fun n18=>
       r0.1[n18]?.bind fun y19=>
       some (decide (y19=x11))
      else some false
     else some false).bind fun x20=>
    bif x20 then
     x12.1.2[n14]?.bind fun y21=>
     some (x12.1.1,x12.1.2.set n14 (y21.1,y21.2.1,(if (4:Int)<(IntKind.wrap .i64 (a2+1)) then (4:Int) else (IntKind.wrap .i64 (a2+1))),y21.2.2.2))
    else some x12.1).bind fun x22=>
   self13 (x22,IntKind.wrap .i64 (x12.2+1))
  else some x12.1) (a0,(0:Int))).bind fun x23=>
 (aJ n (X:=eB × aP × Int) (B:=(eB × aP) ⊕ (aP × Bool × eB)) (fun self25 x24=>
  bif decide (x24.2.2<(x23.2.length:Int)) then
   (bnd x24.1.2.length x24.2.2 fun n26=>
    (x24.1.2[n26]?.bind fun y27=>
     bif y27.2.2.2 then
      some true
     else x24.1.2[n26]?.bind fun y28=>
     bif !decide (y28.2.2.1=a2) then
      some true
     else x24.1.2[n26]?.bind fun y29=>
     bnd r0.1.length y29.1 fun n30=>
     r0.1[n30]?.bind fun y31=>
     bif !decide (y31=x11) then
      x24.1.2[n26]?.bind fun y32=>
      bnd r0.1.length y32.2.1 fun n33=>
      r0.1[n33]?.bind fun y34=>
      some (!decide (y34=x11))
     else some false).bind fun x35=>
    bif x35 then
     some (Sum.inl (x24.1,x24.2.1))
    else x24.1.2[n26]?.bind fun y36=>
    bnd r0.1.length y36.1 fun n37=>
    r0.1[n37]?.bind fun y38=>
    x24.1.2[n26]?.bind fun y39=>
    bnd r0.1.length y39.2.1 fun n40=>
    r0.1[n40]?.bind fun y41=>
    bif !decide (y38=y41) then
     x24.1.2[n26]?.bind fun y42=>
     Option.bind (x24.1.2.set n26 (y42.1,y42.2.1,y42.2.2.1,true))[n26]? fun y43=>
     Option.bind (x24.1.2.set n26 (y42.1,y42.2.1,y42.2.2.1,true))[n26]? fun y44=>
     some (Sum.inr ((y43.1,y44.2.1),true,(x24.1.1,x24.1.2.set n26 (y42.1,y42.2.1,y42.2.2.1,true))))
    else x24.1.2[n26]?.bind fun y45=>
    some (Sum.inl ((x24.1.1,x24.1.2.set n26 (y45.1,y45.2.1,(if (4:Int)<(IntKind.wrap .i64 (a2+1)) then (4:Int) else (IntKind.wrap .i64 (a2+1))),y45.2.2.2)),x24.2.1))).bind fun y=>match y with
   | .inl x46=>
    self25 (x46.1,x46.2,IntKind.wrap .i64 (x24.2.2+1))
   | .inr x46=>
    some (Sum.inr (x46.1,x46.2.1,x46.2.2))
  else some (Sum.inl (x24.1,x24.2.1))) (x23,((0:Int),(0:Int)),(0:Int))).bind fun y=>match y with
 | .inl x47=>
  some (((0:Int),(0:Int),false),x47.1)
 | .inr x47=>
  some ((x47.1.1,x47.1.2,x47.2.1),x47.2.2):=by kernel_rfl
def aaH:TC:=
 (zS [dK 2 0,dK 3 1,DI 4 1000000005,qX 5 1000000006,bz 6,bz 7] (zQ (.seq (.join [⟨24,[.b],false⟩] 33521664 none (zR [AZ 15 2 2 146,zKa 17 16,BP 19 2 2 3,SH 150 19 20 20 3,S_ 21 3 2 3 149 20 3,tN 23 22 3 18])) (zC 24 (zS [zBD 25,zHB 26,iZ 4 25 4 25,dR 5 5 26,bz 6,bz 7] .ret) .skip)) (zS [bO 27 2 0,zBE 29 28,DI 8 1000000009,iZ 8 29 8 29] (zS [SI 9 1000000010] (zQ (.join [⟨9,qF,false⟩,⟨8,bH,false⟩] 144115187002116864 none (zS [bO 30 2 1,rX 32 31] (.block 0 (.loop [⟨9,qF,false⟩,⟨8,bH,false⟩,⟨33,[.i .i64],false⟩] 144115179485924096 (zS [gy 34 33 32] (zQ (zC 34 .skip (.exit 0)) (zQ (.join [⟨9,qF,false⟩,⟨8,bH,false⟩] 72057559678192384 none (.block 1 (zS [kN 35 31 33 4 4,SI 11 1000000012,dR 11 11 36] (zQ (.seq (.join [⟨48,[.b],false⟩] 562812514467840 none (zR [o9 37 11 0 3 0,o8 41 38 40,ut 42 41 5 11 1 5,vV 45 5 3 1 5,DK 47 44 46 5,oW 42 47 48])) (zC 48 (zS [dM 49 11 4,dR 9 9 49] (.exit 1)) .skip)) (zR [uq 50 8 1,dM 52 11 4,zHs 53 52,Yv 51 51 53 54 51 51 8 54 8 8 1]))))) (zR [mM 56 33])))))))) (zQ (.join [⟨8,bH,false⟩,⟨4,bH,false⟩,⟨5,[.i .i64,.i .i64],false⟩] 75557719610726247592432 (some [⟨4,bH,false⟩,⟨5,[.i .i64,.i .i64],false⟩,⟨6,[.b],false⟩,⟨7,[.b],false⟩]) (zS [bO 57 9 2,au 12 58] (.block 2 (.loop [⟨8,bH,false⟩,⟨4,bH,false⟩,⟨5,[.i .i64,.i .i64],false⟩,⟨12,[.i .i64],false⟩] 75557287265162020024816 (zQ (.seq (.join [⟨64,[.b],false⟩] 36317027395115679744 none (zR [au 59 12,zHD 60 59,ut 61 60 2 9 3 2,oW 61 63 64])) (zC 64 .skip (.exit 2))) (zQ (.block 3 (zS [dM 68 3 2,au 69 12,zGt 151 8 68 69 70 8 70,dC 70 67 70,zIo 71 67 0 2,uo 72 67 2,qX 13 1000000014,dR 13 13 71,au 14 72] (zS [au 73 14] (zC 73 (zS [jf 74 8 2,zIa 4 8 13 2 75 75,FN 74 4 74 4 74 74 8,dR 5 5 75,gX 6,gX 7] .ret) .skip)))) (zR [au 65 12,yz 66 65,au 12 66]))))))) (zS [jf 76 8 2,zHB 77,FN 76 4 76 4 76 76 8,dR 5 5 77,bz 6,gX 7] .ret)))))))
def aaI:aL:=⟨[.rd true nE,.rd true [.d,.d]],(.tup [(true,2),(true,2),(false,1),(false,1)] [.d,.sl (.own none) [.d,.d,.d,.d],.d,.d,.d,.d])⟩
def aaJ:aK:=aD [(146,EM),(150,xL),(149,LW),(151,Vl)]
def LX (n:Nat):eB × aP->Option (aBn × Unit):=aH n aaJ aaH [bH,[.i .i64,.i .i64]] apa [] [4,5,6,7] .no
def jR:=LX BIG
def LY:TSp:=⟨aaI,[bH,[.i .i64,.i .i64]],apa,[],Ou.j .no,jR⟩
theorem aqw:zK aaJ 67 aaI aaH 78 .no [4,5,6,7]:=by show _=_;kernel_rfl
theorem Vm:LY.Ok PG 67:=aO (ae Gx (ae Am (ae Vh (ae ai3 (ay PG))))) aqw (by kernel_rfl)
theorem aqx (n) (a0) (a1):LX n (a0,a1) = ((zD a0).bind fun r0=> bif !r0.1 then some true else (lV a0).bind fun r1=> (CS (r1.1,a1)).bind fun r2=> some !r2.1).bind fun x3=> bif x3 then some (((0:Int),[],(0:Int),(0:Int),false,false),()) else (aJ n (X:=lS × eB × Int) (B:=lS × eB) (fun self5 x4=> bif decide (x4.2.2<(a0.2.length:Int)) then (bnd a0.2.length x4.2.2 fun n6=> a0.2[n6]?.bind fun y7=> (bif decide (y7.1=a1.1) then some (decide (y7.2.1=a1.2)) else some false).bind fun x8=> bif x8 then some (y7,x4.2.1) else bif decide (x4.2.1.2.length+[y7].length<=4294967296) then some (x4.1,(x4.2.1.1,x4.2.1.2++[y7])) else none:Option (lS × eB)).bind fun x9=> self5 (x9.1,x9.2,IntKind.wrap .i64 (x4.2.2+1)) else some (x4.1,x4.2.1)) (((0:Int),(0:Int),(0:Int),false),(a0.1,[]),(0:Int))).bind fun x10=> (aJ n (X:=eB × eB × aP × Int) (B:=(eB × eB × aP) ⊕ (eB × aP × Bool × Bool)) (fun self12 x11=> (bif decide (0<=x11.2.2.2) then some x10.1.2.2.2 else some false).bind fun x13=> bif x13 then (qB (x11.1,a1,x11.2.2.2)).bind fun r14=> bif r14.1.2.2 then some (Sum.inr (r14.2,(r14.1.1,r14.1.2.1),true,true)) else self12 (r14.2,x11.2.1,x11.2.2.1,IntKind.wrap .i64 (x11.2.2.2-1)) else some (Sum.inl (x11.1,x11.2.1,x11.2.2.1))) (x10.2,((0:Int),[]),((0:Int),(0:Int)),x10.1.2.2.1)).bind fun y=>match y with | .inl x15=> some ((x15.1.1,x15.1.2,(0:Int),(0:Int),false,true),()) | .inr x15=> some ((x15.1.1,x15.1.2,x15.2.1.1,x15.2.1.2,x15.2.2),()):=by kernel_rfl
def ai4:TC:=
 (zS [dK 1 0,AR 2] (zS [jq 3,Jp 4 1 1 3 2,gz 5 150 4,zIm 5 1 1 6 5,dC 6 2 6] .ret))
def ai5:aL:=⟨[.rd true N9],(.one false iG)⟩
def ai6:aK:=aD [(150,xL)]
def WZ (n:Nat):jO->Option ((List aP) × Unit):=aH n ai6 ai4 [gJ] [.sl [.i .i64,.i .i64]] [] [2] .no
def LZ:=WZ BIG
def ai7:TSp:=⟨ai5,[gJ],[.sl [.i .i64,.i .i64]],[],Ou.j .no,LZ⟩
theorem awm:zK ai6 152 ai5 ai4 7 .no [2]:=by show _=_;kernel_rfl
theorem atP:ai7.Ok PG 152:=aO (ae Am (ay PG)) awm (by kernel_rfl)
theorem awn (n) (a0):WZ n a0 = (lV (a0.2.1,a0.2.2.1)).bind fun r0=> some (r0.1.2,()):=by kernel_rfl
def EQ:TC:=
 (zS [AR 4] (zS [AR 5] (zQ (.join [⟨0,gJ,false⟩,⟨5,[.sl [.i .i64,.i .i64]],false⟩] 2251799813685153 none (zS [dA 12,rV 13 12,zJd 14 0 13 7,gz 15 152 14,rX 16 15] (.block 0 (.loop [⟨0,gJ,false⟩,⟨5,[.sl [.i .i64,.i .i64]],false⟩,⟨17,[.i .i64],false⟩] 2251799813574561 (zS [gy 18 17 16] (zQ (zC 18 .skip (.exit 0)) (zQ (.join [⟨0,gJ,false⟩,⟨5,[.sl [.i .i64,.i .i64]],false⟩] 1125899906322337 none (.block 1 (zS [kN 19 15 17 2 2,qX 7 1000000008,dR 7 7 20] (zQ (.join [⟨30,[.b],false⟩] 2145386496 none (zR [FW 21 7 0 1,o8 24 22 23,MO 25 24 4 7 1 4,jH 28 1 4,zDA 29 27 28 4,qU 25 29 30])) (zC 30 (zS [dA 32,[⟨false,[],[1000000009,1000000010],.det 1 (.same 32),[33],(some 33),none⟩],zJn 1000000009 1000000010,zJo 1000000009 1000000010 0 34 35 35,zIa 1000000009 1000000010 7 2 36 36,zKz 1000000009 1000000010 67 35 36 37 37 31 31 0 2,zLz 1000000009 1000000010 31 2 2 39 39 4 5,zIj 1000000010 8 1000000009 8,zIk 1000000009 9 1000000010 9,iZ 8 38 8 38,dR 9 9 39,yD 10 40] (zS [dA 42,jf 43 8 2,ny 44 42,zJp 43 0 45 43 0 43 43 8 35] (zR [dC 5 46 5,dM 47 7 2,Jv 48 47 46 46 5]))) .skip))))) (zR [mM 50 17])))))))) (zS [tO 5 51 5 4] .ret))))
def ER:aL:=⟨[.mp N9,.rd false [.d]],(.one false iG)⟩
def ES:aK:=aD [(152,ai7),(67,LY)]
def vH (n:Nat):jO × Int->Option ((List aP) × Int × Int × List lS × Int × Bool × List aP × List Int):=aH n ES EQ [gJ,[.i .i64]] [.sl [.i .i64,.i .i64]] gJ [4] (.mp 0)
def pQ:=vH BIG
def ET:TSp:=⟨ER,[gJ,[.i .i64]],[.sl [.i .i64,.i .i64]],gJ,Ou.j (.mp 0),pQ⟩
theorem W9:zK ES 68 ER EQ 52 (.mp 0) [4]:=by show _=_;kernel_rfl
theorem Sy:ET.Ok PG 68:=aO (ae atP (ae Vm (ay PG))) W9 (by kernel_rfl)
theorem W_ (n) (a0) (a1):vH n (a0,a1) = ((LZ a0).bind fun r0=> aJ n (X:=jO × (List aP) × Int) (B:=jO × (List aP)) (fun self2 x1=> bif decide (x1.2.2<(r0.1.length:Int)) then (bnd r0.1.length x1.2.2 fun n3=> r0.1[n3]?.bind fun y4=> (bif decide (y4.1=a1) then some true else some (decide (y4.2=a1))).bind fun x5=> bif x5 then (jR ((x1.1.2.1,x1.1.2.2.1),y4)).bind fun r6=> bif decide (x1.2.1.length+[y4].length<=4294967296) then some ((x1.1.1,r6.1.1,r6.1.2.1,x1.1.2.2.2),x1.2.1++[y4]) else none else some (x1.1,x1.2.1):Option (jO × (List aP))).bind fun x7=> self2 (x7.1,x7.2,IntKind.wrap .i64 (x1.2.2+1)) else some (x1.1,x1.2.1)) (a0,[],(0:Int)):Option (jO × (List aP))).bind fun x8=> some (x8.2,x8.1):=by kernel_rfl
def aaK:TC:=
 (zS [dK 2 0,dK 3 1,zGC 4 1000000005,bz 5] (zQ (.seq (.join [⟨20,[.b],false⟩] 2097088 none (zR [dM 6 2 2,gz 7 193 6,jN 8 7,MO 9 8 3 2 0 3,S_ 12 3 2 3 189 11 3,DN 14 13 3 9,BP 17 2 2 10,BP 18 3 2 10,yx 149 17 18 19 19 10,qU 16 19 20])) (zC 20 (zS [[o1 21 (.build kM [])],FY 4 21 4 21] .ret) .skip)) (zS [o9 22 2 0 2 1,yC 26 3 2 156 25,zHq,iZ 4 28 4 28,gX 5] .ret)))
def aaL:aL:=⟨[.rd true Oa,.rd true [.d,.d]],(.tup [(true,2),(false,1)] [.d,.sl (.own none) [.d,.d],.d])⟩
def aaM:aK:=aD [(193,LK),(189,Gr),(149,LW),(156,Aj)]
def L6 (n:Nat):Bu × aP->Option ((Int × List aP × Bool) × Unit):=aH n aaM aaK [kM,[.i .i64,.i .i64]] apc [] [4,5] .no
def L8:=L6 BIG
def aaN:TSp:=⟨aaL,[kM,[.i .i64,.i .i64]],apc,[],Ou.j .no,L8⟩
theorem aqy:zK aaM 198 aaL aaK 29 .no [4,5]:=by show _=_;kernel_rfl
theorem alO:aaN.Ok PG 198:=aO (ae U2 (ae Ls (ae Vh (ae Ep (ay PG))))) aqy (by kernel_rfl)
theorem aqz (n) (a0) (a1):L6 n (a0,a1) = ((CP a0).bind fun r0=> bif !r0.1 then some true else (Bc (a0.1,a1)).bind fun r1=> bif !r1.1 then some true else (CS (a0,a1)).bind fun r2=> some r2.1).bind fun x3=> bif x3 then some (((0:Int),[],false),()) else (uz (a0.2,a1)).bind fun r4=> some ((a0.1,r4.1,true),()):=by kernel_rfl
def ae7:TC:=
 (zS [dK 2 0,dK 3 1,DI 4 1000000005,bz 5] (zQ (zS [zHt 1000000007 2 12 12,zHu 1000000007 150 12 13 13,zHv 1000000007 14 14,zHw 1000000007 198 13 14 15 15,zMi 1000000007 2 15 11 15 11,zGC 6 1000000007,rY 6 16 6 16] (zQ (.join [⟨24,[.b],false⟩] 33292288 none (zR [AZ 18 2 2 146,Jw 20 19 7 3,tN 23 22 3 21])) (zC 24 (zS [zBD 25,FY 4 25 4 25] .ret) .skip))) (zS [dM 26 2 2,zHm 27 154 26,dC 27 8 27] (zS [bK 9] (zQ (.join [⟨9,[.i .i64],false⟩] 4503599358935552 none (.block 0 (.loop [⟨9,[.i .i64],false⟩] 4503599358935552 (zQ (.seq (.join [⟨49,[.b],false⟩] 1125899638407168 none (zR [Oh 28 9 2 1 31,ut 33 32 5 2 1 5,iE 36 9 5,qW 37 35 36 5,Jq 38 37 5,BN 39 35 4 38 5,vV 40 5 2 1 5,iE 42 9 5,qW 43 41 42 5,Jq 44 43 5,zHr 45 41 4 1 44 5,[o2 46 (.build [.i .i64,.i .i64] [(0,.t 39),(1,.t 45)]) 5 true],zEA 47 3 2 5,qa 192 46 47 48 48 5,oW 33 48 49])) (zC 49 .skip (.exit 0))) (.block 1 (zR [gY 50 9 9])))))) (zS [au 56 9,ML 1000000011 52 52 2 0,ML 1000000011 54 54 2 1,[⟨false,[],[1000000011],.det 1 (.res 55 none (some (.t 56))),[57],(some 57),none⟩,⟨false,[],[1000000011],.det 1 (.build bH [(0,.t 53),(1,.t 57)]),[58],(some 58),none⟩],zHu 1000000011 148 58 59 59,DI 10 1000000011,iZ 10 59 10 59] (zS [gN 66 8,gN 71 8,au 82 9,zGv 1000000003 60 60,zJb 1000000003 10 60 1 61 61,o9 62 3 0 3 1,Oj 67 3 0 66 8 1,Oj 72 3 1 71 8 1,wY 76 70 75,[o5 (.build qF [(0,.t 63),(1,.t 65),(2,kO 0),(3,.t 76)]) 77 1000000003],zHs 78 77,zBt 61 61 78 79 61 61 10 79,zMg 1000000003 10 80 80 2 1,[⟨false,[],[1000000003,10],.det 1 (.res 81 (some (.t 82)) none),[83],(some 83),none⟩],yw 79 83 84 79,zMc 85 10 84 61 10 1 84] (zS [jf 86 10 2,FN 86 4 86 4 86 86 10,gX 5] .ret))))))))
def ae8:aL:=⟨[.rd true nE,.rd true [.d,.d]],(.tup [(true,2),(false,1)] Ct7)⟩
def ae9:aK:=aD [(150,xL),(198,aaN),(146,EM),(154,qA),(192,Lt),(148,LU)]
def Qt (n:Nat):eB × aP->Option (apg × Unit):=aH n ae9 ae7 [bH,[.i .i64,.i .i64]] N8 [] [4,5] .no
def wh:=Qt BIG
def ae_:TSp:=⟨ae8,[bH,[.i .i64,.i .i64]],N8,[],Ou.j .no,wh⟩
theorem atQ:zK ae9 153 ae8 ae7 87 .no [4,5]:=by show _=_;kernel_rfl
theorem aqA:ae_.Ok PG 153:=aO (ae Am (ae alO (ae Gx (ae si (ae Pw (ae Vg (ay PG))))))) atQ (by kernel_rfl)
theorem atS (n) (a0) (a1):Qt n (a0,a1) = (lV a0).bind fun r0=> (L8 (r0.1,a1)).bind fun r1=> ((zD a0).bind fun r2=> bif !r2.1 then some true else some !r1.1.2.2).bind fun x3=> bif x3 then some (((0:Int),[],false),()) else (og (a0,(0:Int))).bind fun r4=> (aJ n (X:=Int) (B:=Int) (fun self6 x5=> (bif decide (x5<(a0.2.length:Int)) then bnd a0.2.length x5 fun n7=> a0.2[n7]?.bind fun y8=> bnd a0.2.length x5 fun n9=> a0.2[n9]?.bind fun y10=> (zt ((y8.1,y10.2.1),a1)).bind fun r11=> some r11.1 else some false).bind fun x12=> bif x12 then self6 (IntKind.wrap .i64 (x5+1)) else some x5) (0:Int)).bind fun x13=> bif decide (0<=x13) then bif decide (0<=(Int.toNat x13)/\(Int.toNat x13)<=a0.2.length) then (xN (a0.1,List.take ((Int.toNat x13)-0) (List.drop 0 a0.2))).bind fun r14=> bnd r4.1.length a1.1 fun n15=> r4.1[n15]?.bind fun y16=> bnd r4.1.length a1.2 fun n17=> r4.1[n17]?.bind fun y18=> bif decide (r14.1.2.length+([(a1.1,a1.2,(0:Int),!decide (y16=y18))]).length<=4294967296) then bif decide (0<=x13) then bif decide ((Int.toNat x13)<=a0.2.length/\a0.2.length<=a0.2.length) then bif decide ((r14.1.2++([(a1.1,a1.2,(0:Int),!decide (y16=y18))])).length+(List.take (a0.2.length-(Int.toNat x13)) (List.drop (Int.toNat x13) a0.2)).length<=4294967296) then some ((r14.1.1,(r14.1.2++([(a1.1,a1.2,(0:Int),!decide (y16=y18))]))++(List.take (a0.2.length-(Int.toNat x13)) (List.drop (Int.toNat x13) a0.2)),true),()) else none else none else none else none else none else none:=by kernel_rfl
def Gy:TC:=
 (zS [bz 4] (zS [gX 5] (zQ (.join [⟨0,gJ,false⟩,⟨5,[.b],false⟩] 34359738273 none (zS [MN 10 1] (.block 0 (.loop [⟨0,gJ,false⟩,⟨5,[.b],false⟩,⟨12,[.i .i64],false⟩] 34359735201 (zS [gy 13 12 11] (zQ (zC 13 .skip (.exit 0)) (zQ (.join [⟨0,gJ,false⟩,⟨5,[.b],false⟩] 17179853729 none (.block 1 (zS [kN 14 10 12 2 2,qX 7 1000000008,dR 7 7 15] (zS [dA 17,zMk 1000000009 17 18 18 0 2,zHt 1000000009 7 21 21,zHw 1000000009 153 20 21 22 22,zMi 1000000009 2 22 16 22 16,DI 8 1000000009,rY 8 23 8 23] (zQ (.join [⟨0,gJ,false⟩] 1041236225 none (zS [au 25 9] (zC 25 (zR [dA 26,jf 27 8 2,ny 28 26,zJp 27 0 29 27 0 27 27 8 20]) .skip))) (.join [⟨5,[.b],false⟩] 16106127392 none (zR [au 30 5,BS 31 30 9 1,nA 31 32 33 5]))))))) (zR [mM 34 12])))))))) (zS [MQ 35 5 4] .ret))))
def Gz:aL:=⟨[.mp N9,.rd false iG],(.one false [.d])⟩
def GA:aK:=aD [(153,ae_)]
def xO (n:Nat):jO × (List aP)->Option ((Bool) × Int × Int × List lS × Int × Bool × List aP × List Int):=aH n GA Gy [gJ,[.sl [.i .i64,.i .i64]]] [.b] gJ [4] (.mp 0)
def rf:=xO BIG
def GD:TSp:=⟨Gz,[gJ,[.sl [.i .i64,.i .i64]]],[.b],gJ,Ou.j (.mp 0),rf⟩
theorem aaO:zK GA 69 Gz Gy 36 (.mp 0) [4]:=by show _=_;kernel_rfl
theorem Xa:GD.Ok PG 69:=aO (ae aqA (ay PG)) aaO (by kernel_rfl)
theorem aaP (n) (a0) (a1):xO n (a0,a1) = (aJ n (X:=jO × Bool × Int) (B:=jO × Bool) (fun self1 x0=> bif decide (x0.2.2<(a1.length:Int)) then (bnd a1.length x0.2.2 fun n2=> a1[n2]?.bind fun y3=> (wh ((x0.1.2.1,x0.1.2.2.1),y3)).bind fun r4=> (bif r4.1.2.2 then some (x0.1.1,r4.1.1,r4.1.2.1,x0.1.2.2.2) else some x0.1).bind fun x5=> (bif x0.2.1 then some r4.1.2.2 else some false).bind fun x6=> some (x5,x6):Option (jO × Bool)).bind fun x7=> self1 (x7.1,x7.2,IntKind.wrap .i64 (x0.2.2+1)) else some (x0.1,x0.2.1)) (a0,true,(0:Int))).bind fun x8=> some (x8.2,x8.1):=by kernel_rfl
def anG:TC:=
 (zS [dK 2 0,dK 3 1,DJ 4 1000000005,zHp 5 1000000006,bK 6] (zQ (.seq (.join [⟨40,[.b],false⟩] 2199023247360 none (zR [AZ 13 2 7 63,zKa 15 14,rW 17 3,wZ 18 17 3,BM 19 2 1 18 3,S_ 20 3 4 3 64 19 3,DN 22 21 3 16,BQ 25 11 3 0,rW 27 11,wZ 28 27 11,BM 29 2 3 28 11,zEh 30 26 29 11,jH 31 30 11,AU 32 18 3 0,Yu 34 18 2 3,zEz 37 36 18,zEv 38 33 37 18,FP 31 38 39 39 11 24])) (zC 40 (zS [zDe 41,zHk 42,iZ 4 41 4 41,iZ 5 42 5 42,nU 6 1] .ret) .skip)) (zS [AZ 43 2 7 65,DJ 7 1000000008,iZ 7 44 7 44] (zQ (zS [bO 45 3 0,Yx 47 2 3,o8 50 46 49] (zC 50 (zS [jf 51 7 7,FU 52 2 3 4,gz 54 66 53,FN 51 4 51 4 51 51 7,iZ 5 54 5 54,bK 6] .ret) .skip)) (zS [bO 55 3 0,[o1 57 (.build iF [(0,.t 56)])],zHp 8 1000000009,iZ 8 57 8 57] (zQ (.join [⟨7,gJ,false⟩,⟨8,iF,false⟩] 1237940038997149898747420544 none (zS [bO 58 3 1] (.block 0 (zS [yF 65 59 2 64] (zC 64 (zS [zIb 1000000010 1000000011 67 67,zJo 1000000010 1000000011 7 67 68 68,zMg 1000000010 1000000011 69 69 3 2,zId 1000000010 1000000011 70 71 71,zIe 1000000010 1000000011 70 2 0 71 2 72 72,zKz 1000000010 1000000011 67 68 72 73 73 66 66 0 2,zLz 1000000010 1000000011 66 2 2 75 75 4 5,zIj 1000000011 9 1000000010 9,zIk 1000000010 10 1000000011 10,iZ 9 74 9 74,dR 10 10 75,yD 11 76] (zQ (.join [⟨7,gJ,false⟩] 2115915332230780408562304 none (zS [au 78 12] (zC 78 (zR [jf 79 9 2,jq 80,zJp 79 7 80 79 7 79 79 9 68]) .skip))) (zR [au 81 12,MP 82 8 8 1 81]))) (zS [yF 84 59 3 83] (zC 83 (zS [bO 85 3 3,zGB 68 7 86 87 7 87,jq 88,zGf 8 87 8 2 88 87] (zR [jq 89,[o4 1 [8] (.store 8 [] 1 (.t 89) (.c [.b] [.bool true]))]])) (zR [bO 60 3 2,zGB 69 7 61 62 7 62,MP 63 8 8 1 62])))))))) (zS [jq 90,[o1 91 (.load 7 [] 1 (.t 90) 2 true)],gz 92 70 91,jq 93,zGf 8 92 8 3 93 92] (zS [jf 94 8 4,gz 95 66 94,zMc 96 7 95 91 7 3 95] (zS [jf 97 7 7,zJq 4 7 4 98 98,FN 97 4 97 4 97 97 7,zJr 98 5 98 5 98 98 8 94,bK 6] .ret)))))))))
def anH:aL:=⟨[.rd true N9,.rd true N_],(.tup [(true,7),(true,4),(false,1)] [.d,.d,.sl (.own none) [.d,.d,.d,.d],.d,.d,.sl (.own none) [.d,.d],.sl (.own none) [.d],.d,.d,.sl (.own none) [.d,.d],.sl (.own none) [.d],.d])⟩
def anI:aK:=aD [(63,aaz),(64,LA),(65,Qs),(66,BD),(67,LY),(68,ET),(69,GD),(70,EN)]
def R9 (n:Nat):jO × DT->Option (Zt4 × Unit):=aH n anI anG [gJ,kw] Ty4 [] [4,5,6] .no
def oM:=R9 BIG
def anJ:TSp:=⟨anH,[gJ,kw],Ty4,[],Ou.j .no,oM⟩
theorem azw:zK anI 14 anH anG 99 .no [4,5,6]:=by show _=_;kernel_rfl
theorem awo:anJ.Ok PG 14:=aO (ae alL (ae Uw (ae afV (ae JR (ae Vm (ae Sy (ae Xa (ae Nf (ay PG))))))))) azw (by kernel_rfl)
theorem anK (n) (a0) (a1):R9 n (a0,a1) = ((CQ a0).bind fun r0=> bif !r0.1 then some true else (CL (a0.2.1,a1)).bind fun r1=> bif !r1.1 then some true else bif !decide (a1.1=a0.2.2.2.1) then some (!decide (a1.1=(IntKind.wrap .i64 (a0.2.2.2.1+1)))) else some false).bind fun x2=> bif x2 then some (((0:Int),(0:Int),[],(0:Int),false,[],[],(0:Int),false,[],[],(1:Int)),()) else (EP a0).bind fun r3=> bif decide (a1.1=a0.2.2.2.1) then (lw a0.2.2.2).bind fun r4=> some ((r3.1.1,r3.1.2.1,r3.1.2.2.1,r3.1.2.2.2.1,r3.1.2.2.2.2.1,r3.1.2.2.2.2.2.1,r3.1.2.2.2.2.2.2,r4.1.1,r4.1.2.1,r4.1.2.2.1,r4.1.2.2.2,(0:Int)),()) else (bif decide (a1.2.1=2) then bnd a1.2.2.1.length (0:Int) fun n5=> a1.2.2.1[n5]?.bind fun y6=> (jR ((r3.1.2.1,r3.1.2.2.1),y6)).bind fun r7=> (bif r7.1.2.2.2.2.2 then some (r3.1.1,r7.1.1,r7.1.2.1,r3.1.2.2.2) else some r3.1).bind fun x8=> some (x8,(a1.1,r7.1.2.2.2.2.2,[],[])) else bif decide (a1.2.1=3) then (pQ (r3.1,a1.2.2.2)).bind fun r9=> some (r9.2,(a1.1,true,r9.1,[])) else (rf (r3.1,a1.2.2.1)).bind fun r10=> some (r10.2,(a1.1,r10.1,[],[])):Option (jO × oK)).bind fun x11=> (mQ (x11.1.2.1,x11.1.2.2.1)).bind fun r12=> (lw (x11.2.1,x11.2.2.1,x11.2.2.2.1,r12.1)).bind fun r13=> some ((x11.1.1,x11.1.2.1,x11.1.2.2.1,r13.1.1,r13.1.2.1,r13.1.2.2.1,r13.1.2.2.2,x11.2.1,x11.2.2.1,x11.2.2.2.1,r12.1,(0:Int)),()):=by kernel_rfl
def Qu:TC:=
 (zS [DJ 6 1000000007,bz 7] (zS [df 16 0 1,jI 18 113 16 17,DR 18 15 18 7 7,DJ 8 1000000009,rY 8 19 8 19] (zQ (zS [au 21 9,jN 22 21] (zC 22 (zS [zDe 23,FY 6 23 6 23] .ret) .skip)) (zQ (.join [⟨6,gJ,false⟩,⟨8,gJ,false⟩] 281474959964608 (some [⟨6,gJ,false⟩,⟨7,[.b],false⟩]) (zS [MN 24 2] (.block 0 (.loop [⟨6,gJ,false⟩,⟨8,gJ,false⟩,⟨26,[.i .i64],false⟩] 281474909632960 (zS [gy 27 26 25] (zQ (zC 27 .skip (.exit 0)) (zQ (.join [⟨6,gJ,false⟩,⟨8,gJ,false⟩] 140737219951040 (some [⟨6,gJ,false⟩,⟨7,[.b],false⟩]) (.block 1 (zS [kN 28 24 26 14 14,zJk,dR 11 11 29] (zS [jf 31 8 7,FU 32 11 10 4,jI 34 14 31 33,zKc 34 30 34 7,zIm 30 7 4 36 30,uo 37 30 11,DJ 12 1000000013,zHp 13 1000000014,iZ 12 35 12 35,rY 13 36 13 36] (zQ (.seq (.join [⟨44,[.b],false⟩] 34909494181888 none (zR [bO 38 11 0,zDi 40 39 3,au 41 40,jH 42 14 3,zID 43 42 3,qU 41 43 44])) (zC 44 (zS [zDe 45,FY 6 45 6 45] .ret) .skip)) (zR [jf 46 12 7,zJr 46 8 46 8 46 46 12 31])))))) (zR [mM 47 26])))))))) (zS [w9 48 8 7 6 6 8,gX 7] .ret)))))
def Qv:aL:=⟨[.rd false [.d],.rd false [.d],.rd false Ct2],(.tup [(true,7),(false,1)] Ct3)⟩
def Qw:aK:=aD [(113,U1),(14,anJ)]
def EU (n:Nat):Int × Int × (List Zt7)->Option (Zt8 × Unit):=aH n Qw Qu [[.i .i64],[.i .i64],yn] Ty8 [] [6,7] .no
def EW:=EU BIG
def Qx:TSp:=⟨Qv,[[.i .i64],[.i .i64],yn],Ty8,[],Ou.j .no,EW⟩
theorem ai8:zK Qw 34 Qv Qu 49 .no [6,7]:=by show _=_;kernel_rfl
theorem afW:Qx.Ok PG 34:=aO (ae aiL (ae awo (ay PG))) ai8 (by kernel_rfl)
theorem ai9 (n) (a0) (a1) (a2):EU n (a0,a1,a2) =
 (IM (a0,a1)).bind fun r0=>
 bif !r0.1.2.2.2.2.2.2.2 then
  some (((0:Int),(0:Int),[],(0:Int),false,[],[],false),())
 else (aJ n (X:=jO × jO × Int) (B:=(jO × jO) ⊕ (jO × Bool)) (fun self2 x1=>
  bif decide (x1.2.2<(a2.length:Int)) then
   (bnd a2.length x1.2.2 fun n3=>
    a2[n3]?.bind fun y4=>
    (oM (x1.2.1,y4.2.2.2.2.2.2.2.2.2.2)).bind fun r5=>
    (bif !decide (y4.1=3) then
     some true
     else some (!decide (r5.1.2.2.2.2.2.2.2.2.2.2.2=0))).bind fun x6=>
    bif x6 then
     some (Sum.inr (((0:Int),(0:Int),[],(0:Int),false,[],[]),false))
    else some (Sum.inl (x1.1,(r5.1.1,r5.1.2.1,r5.1.2.2.1,r5.1.2.2.2.1,r5.1.2.2.2.2.1,r5.1.2.2.2.2.2.1,r5.1.2.2.2.2.2.2.1))):Option ((jO × jO) ⊕ (jO × Bool))).bind fun y=>match y with
   | .inl x7=>
    self2 (x7.1,x7.2,IntKind.wrap .i64 (x1.2.2+1))
   | .inr x7=>
    some (Sum.inr (x7.1,x7.2))
  else some (Sum.inl (x1.1,x1.2.1))) (((0:Int),(0:Int),[],(0:Int),false,[],[]),(r0.1.1,r0.1.2.1,r0.1.2.2.1,r0.1.2.2.2.1,r0.1.2.2.2.2.1,r0.1.2.2.2.2.2.1,r0.1.2.2.2.2.2.2.1),(0:Int))).bind fun y=>match y with
 | .inl x8=>
  some ((x8.2.1,x8.2.2.1,x8.2.2.2.1,x8.2.2.2.2.1,x8.2.2.2.2.2.1,x8.2.2.2.2.2.2.1,x8.2.2.2.2.2.2.2,true),())
 | .inr x8=>
  some ((x8.1.1,x8.1.2.1,x8.1.2.2.1,x8.1.2.2.2.1,x8.1.2.2.2.2.1,x8.1.2.2.2.2.2.1,x8.1.2.2.2.2.2.2,x8.2),()):=by kernel_rfl
def Qy:TC:=
 (zS [DJ 6 1000000007,bz 7] (zS [df 15 0 1,jI 17 114 15 16,DR 17 14 17 7 7,DJ 8 1000000009,rY 8 18 8 18] (zQ (.join [⟨9,[.b],false⟩,⟨8,gJ,false⟩] 2251799812652800 none (zS [bK 10] (.block 0 (.loop [⟨9,[.b],false⟩,⟨8,gJ,false⟩,⟨10,[.i .i64],false⟩] 2251799812652800 (zQ (.seq (.join [⟨26,[.b],false⟩] 133169152 none (zR [BR 20 10 2,BS 24 23 9 4,oW 24 25 26])) (zC 26 .skip (.exit 0))) (zQ (.join [⟨9,[.b],false⟩,⟨8,gJ,false⟩] 2251799276829440 none (.block 1 (zS [df 31 2 10,zJq 1000000012 1000000013 7 30 30,zIx 1000000012 1000000013 31 32 33 33,zJn 1000000012 1000000013,zIe 1000000012 1000000013 31 14 10 34 4 35 35,zKz 1000000012 1000000013 40 30 35 36 36 29 29 0 7,zIy 1000000012 1000000013 29 7 4 38 29 38,zIi 1000000012 1000000013 29 11 39 39,zIz 1000000013 11 1000000012 11,zIA 1000000012 12 1000000013 12,iZ 11 37 11 37,rY 12 38 12 38] (zQ (.join [⟨9,[.b],false⟩] 1124800395215360 none (zR [df 40 2 10,SQ 42 40 41 14,wX 45 44 3,BS 46 45 13 6,Oc 48 47 6,nA 46 48 49 9])) (zR [jf 50 11 7,zJr 50 8 50 8 50 50 11 30]))))) (zR [Ju 27 10]))))))) (zQ (zS [au 51 9,jN 52 51] (zC 52 (zS [zDe 53,FY 6 53 6 53] .ret) .skip)) (zS [jf 54 8 7,gz 55 115 54,iZ 6 55 6 55,gX 7] .ret)))))
def Qz:aL:=⟨[.rd false [.d],.rd false [.d],.rd false Ct2],(.tup [(true,7),(false,1)] Ct3)⟩
def QA:aK:=aD [(114,H5),(40,acf),(115,Lf)]
def EX (n:Nat):Int × Int × (List Zt7)->Option (Zt8 × Unit):=aH n QA Qy [[.i .i64],[.i .i64],yn] Ty8 [] [6,7] .no
def EY:=EX BIG
def QB:TSp:=⟨Qz,[[.i .i64],[.i .i64],yn],Ty8,[],Ou.j .no,EY⟩
theorem ai_:zK QA 35 Qz Qy 56 .no [6,7]:=by show _=_;kernel_rfl
theorem afX:QB.Ok PG 35:=aO (ae Ow (ae aid (ae TW (ay PG)))) ai_ (by kernel_rfl)
theorem aja (n) (a0) (a1) (a2):EX n (a0,a1,a2) = (z8 (a0,a1)).bind fun r0=> (aJ n (X:=Bool × jO × Int) (B:=Bool × jO) (fun self2 x1=> (bif decide (x1.2.2<(a2.length:Int)) then some x1.1 else some false).bind fun x3=> bif x3 then (bnd a2.length x1.2.2 fun n4=> a2[n4]?.bind fun y5=> (nG (x1.2.1,y5.2.2.2.2.2.2.2.2.2.2)).bind fun r6=> (bnd a2.length x1.2.2 fun n7=> a2[n7]?.bind fun y8=> bif decide (y8.1=3) then some (decide (r6.1.2.2.2.2.2.2.2.2.2.2.2=0)) else some false).bind fun x9=> some (x9,(r6.1.1,r6.1.2.1,r6.1.2.2.1,r6.1.2.2.2.1,r6.1.2.2.2.2.1,r6.1.2.2.2.2.2.1,r6.1.2.2.2.2.2.2.1))).bind fun x10=> self2 (x10.1,x10.2,IntKind.wrap .i64 (x1.2.2+1)) else some (x1.1,x1.2.1)) (r0.1.2.2.2.2.2.2.2,(r0.1.1,r0.1.2.1,r0.1.2.2.1,r0.1.2.2.2.1,r0.1.2.2.2.2.1,r0.1.2.2.2.2.2.1,r0.1.2.2.2.2.2.2.1),(0:Int))).bind fun x11=> bif !x11.1 then some (((0:Int),(0:Int),[],(0:Int),false,[],[],false),()) else (pO x11.2).bind fun r12=> some ((r12.1.1,r12.1.2.1,r12.1.2.2.1,r12.1.2.2.2.1,r12.1.2.2.2.2.1,r12.1.2.2.2.2.2.1,r12.1.2.2.2.2.2.2,true),()):=by kernel_rfl
def aaQ:TC:=
 (zS [dK 2 0,kP 3 1] (zQ (.seq (.join [⟨19,[.b],false⟩] 1048512 none (zR [iP 6 2 0 6,iP 8 3 0 8,wY 10 7 9,MO 11 10 5 2 1 5,Jr 14 13 5,yB 15 5 3 1 5,Jr 17 16 5,Jt 18 14 17 5 11])) (zC 19 (zS [bz 4] .ret) .skip)) (zQ (.join [] 274876858416 (some [⟨4,[.b],false⟩]) (zS [bK 5] (.block 0 (.loop [⟨5,[.i .i64],false⟩] 274876858416 (zQ (zS [Oh 20 5 2 1 23] (zC 24 .skip (.exit 0))) (zQ (.block 1 (zS [au 29 5,au 34 5,bO 27 2 1,kN 30 28 29 4 4,bO 32 3 1,kN 35 33 34 4 4,[o1 37 (.eqA [.i,.i,.i,.b] (.t 31) (.t 36) true)]] (zC 37 (zS [bz 4] .ret) .skip))) (zR [gY 25 5 5]))))))) (zS [gX 4] .ret))))
def aaR:aL:=⟨[.rd true nE,.rd true nE],(.one false [.d])⟩
def aaS:aK:=aD []
def L9 (n:Nat):eB × eB->Option ((Bool) × Unit):=aH n aaS aaQ [bH,bH] [.b] [] [4] .no
def L_:=L9 BIG
def aaT:TSp:=⟨aaR,[bH,bH],[.b],[],Ou.j .no,L_⟩
theorem aqB:zK aaS 36 aaR aaQ 38 .no [4]:=by show _=_;kernel_rfl
theorem alP:aaT.Ok PG 36:=aO (ay PG) aqB (by kernel_rfl)
theorem aqC (n) (a0) (a1):L9 n (a0,a1) = (bif !decide (a0.1=a1.1) then some true else some (!decide ((a0.2.length:Int)=(a1.2.length:Int)))).bind fun x0=> bif x0 then some (false,()) else (aJ n (X:=Int) (B:=(Unit) ⊕ (Bool)) (fun self2 x1=> bif decide (x1<(a0.2.length:Int)) then bnd a0.2.length x1 fun n3=> a0.2[n3]?.bind fun y4=> bnd a1.2.length x1 fun n5=> a1.2[n5]?.bind fun y6=> bif !(decide (y4.1=y6.1)&&(decide (y4.2.1=y6.2.1)&&(decide (y4.2.2.1=y6.2.2.1)&&((y4.2.2.2 == y6.2.2.2)&&true)))) then some (Sum.inr false) else self2 (IntKind.wrap .i64 (x1+1)) else some (Sum.inl ())) (0:Int)).bind fun y=>match y with | .inl x7=> some (true,()) | .inr x7=> some (x7,()):=by kernel_rfl
def QC:TC:=
 (zS [bz 2] (zQ (zS [au 20 0,gz 21 7 20] (zC 21 (zS [gX 2] .ret) .skip)) (zS [au 23 0,Yy 24 29 23 22,uo 25 22 0,uo 26 22 1,zIm 22 2 1 27 22,yD 3 25,dC 27 5 27] (zS [df 29 3 4,zHd 5 5 31 5 31,DL 32 30 29 30 31,dC 32 28 32,zIo 33 28 0 15,uo 34 28 15,p_ 6 1000000007,dR 6 6 33,au 7 34] (zS [df 36 3 4,au 38 5,DL 39 31 36 37 38,zLA 39 35 39 15,p_ 8 1000000009,rY 8 40 8 40] (zQ (.seq (.join [⟨72,[.b],false⟩] 9444732961341243916288 none (zR [au 42 7,FX 43 42 2 6 14 2,rW 47 2,zJi 48 8 14 47 2,yx 17 46 48 49 49 2,DN 50 49 2 44,BQ 53 10 6 2,rW 55 10,zJi 56 8 2 55 10,yx 20 54 56 57 57 10,DN 58 57 10 52,BQ 61 18 6 1,rW 63 18,zJi 64 8 1 63 18,yx 21 62 64 65 65 18,DN 66 65 18 60,BP 69 6 15 26,SH 12 69 70 70 26,tN 71 70 26 68])) (zC 72 (zS [bz 2] .ret) .skip)) (zS [au 73 0,gz 74 32 73,zHf 75 74,Yo 76 74 1 75,au 77 5,l9 78 77,BK 79 78,zAA 80 76 79,au 10 80] (zS [df 82 3 4,df 84 5 10,[o1 86 (.res 84 none (some (.t 85)))],DL 87 30 82 83 86,dC 87 81 87,zIo 88 81 0 15,uo 89 81 15,p_ 11 1000000012,dR 11 11 88,au 12 89] (zQ (.seq (.join [⟨112,[.b],false⟩] 10384592479129615971680717759315968 none (zR [au 90 12,FX 91 90 2 11 14 2,Jr 95 94 2,yB 96 2 6 14 2,Jr 98 97 2,[o2 99 (.data (.bin .gtr) [.t 95,.t 98]) 2 false],qU 92 99 100,au 101 100,rW 102 11,BM 103 11 14 102 11,BQ 104 11 6 14,rW 106 11,BM 107 11 14 106 11,Jr 108 107 11,[o2 109 (.res 105 none (some (.t 108))) 11 false],yx 17 103 109 110 110 11,tN 111 110 11 101])) (zC 112 (zS [bz 2] .ret) .skip)) (zS [au 114 0,Yy 115 33 114 113,uo 116 113 0,uo 117 113 1,uo 118 113 2,yD 13 116,au 15 118] (zS [yD 120 13,au 122 15,DL 123 34 120 121 122,DR 123 119 123 7 7,DJ 16 1000000017,rY 16 124 16 124] (zS [yD 127 13,au 129 15,DL 130 35 127 128 129,DR 130 126 130 7 7,DJ 18 1000000019,rY 18 131 18 131] (zQ (.join [⟨2,[.b],false⟩] 11139483563523841539937031148886364170223620 none (zR [au 133 17,au 134 19,[o1 135 (.data (.beq false) [.t 133,.t 134])],au 136 135,qV 137 3,zJg 138 16 137 2,qV 139 3,zJg 140 18 139 2,qa 36 138 140 141 141 3,nA 136 141 142 2])) .ret)))))))))))))
def QD:aL:=⟨[.rd false fF],(.one false [.d])⟩
def QE:aK:=aD [(7,asV),(29,JJ),(30,UJ),(31,UN),(17,UT),(20,Qc),(21,UX),(12,Gu),(32,Nc),(33,EG),(34,Qx),(35,QB),(36,aaT)]
def EZ (n:Nat):List (Int)->Option ((Bool) × Unit):=aH n QE QC [[.sl [.i .u8]]] [.b] [] [2] .no
def QG:=EZ BIG
def ajb:TSp:=⟨QD,[[.sl [.i .u8]]],[.b],[],Ou.j .no,QG⟩
theorem ajc:zK QE 6 QD QC 143 .no [2]:=by show _=_;kernel_rfl
theorem afY:ajb.Ok PG 6:=aO (ae aze (ae ZZ (ae aiF (ae aiG (ae aiH (ae afP (ae aiK (ae LB (ae acu (ae Sw (ae afW (ae afX (ae alP (ay PG)))))))))))))) ajc (by kernel_rfl)
theorem ajd (n) (a0):EZ n a0 = (ahQ a0).bind fun r0=> bif r0.1 then some (true,()) else (zo a0).bind fun r1=> (Al (r1.1.1,r1.1.2.1,r1.1.2.2)).bind fun r2=> (IG (r1.1.1,r1.1.2.1,r1.1.2.2)).bind fun r3=> (bif !r2.1.2.2.2.2.2.2.2.2.2.2.2.2.2.2.2 then some true else (qz (r2.1.2.2.2.2.2.2.2.2.2.2.2.2.2.2.1,r3.1.2.2.2.2.2.2.2.2.2.2.2.2.2.2.1)).bind fun r4=> bif !r4.1 then some true else (EB (r2.1.2.2.1,r3.1.2.2.1)).bind fun r5=> bif !r5.1 then some true else (IK (r2.1.2.1,r3.1.2.1)).bind fun r6=> bif !r6.1 then some true else (v_ (r2.1.1,r2.1.2.1,r2.1.2.2.1,r2.1.2.2.2.1,r2.1.2.2.2.2.1,r2.1.2.2.2.2.2.1,r2.1.2.2.2.2.2.2.1,r2.1.2.2.2.2.2.2.2.1,r2.1.2.2.2.2.2.2.2.2.1,r2.1.2.2.2.2.2.2.2.2.2.1,r2.1.2.2.2.2.2.2.2.2.2.2.1,r2.1.2.2.2.2.2.2.2.2.2.2.2.1,r2.1.2.2.2.2.2.2.2.2.2.2.2.2.1,r2.1.2.2.2.2.2.2.2.2.2.2.2.2.2.1,r2.1.2.2.2.2.2.2.2.2.2.2.2.2.2.2.1)).bind fun r7=> some !r7.1).bind fun x8=> bif x8 then some (false,()) else (uP a0).bind fun r9=> bnd r9.1.length (0:Int) fun n10=> r9.1[n10]?.bind fun y11=> bif decide ((IntKind.wrap .i64 ((r1.1.2.2.length:Int)+1))=0) then none else bif decide (0<=(Int.tmod y11 (IntKind.wrap .i64 ((r1.1.2.2.length:Int)+1)))) then bif decide (0<=(Int.toNat (Int.tmod y11 (IntKind.wrap .i64 ((r1.1.2.2.length:Int)+1))))/\(Int.toNat (Int.tmod y11 (IntKind.wrap .i64 ((r1.1.2.2.length:Int)+1))))<=r1.1.2.2.length) then (Al (r1.1.1,r1.1.2.1,List.take ((Int.toNat (Int.tmod y11 (IntKind.wrap .i64 ((r1.1.2.2.length:Int)+1))))-0) (List.drop 0 r1.1.2.2))).bind fun r12=> (bif !r12.1.2.2.2.2.2.2.2.2.2.2.2.2.2.2.2 then some true else bif decide ((r2.1.2.2.2.2.2.2.2.2.2.2.2.2.2.2.1.length:Int)<(r12.1.2.2.2.2.2.2.2.2.2.2.2.2.2.2.1.length:Int)) then some true else bif decide (0<=(r12.1.2.2.2.2.2.2.2.2.2.2.2.2.2.2.1.length:Int)) then bif decide (0<=(Int.toNat (r12.1.2.2.2.2.2.2.2.2.2.2.2.2.2.2.1.length:Int))/\(Int.toNat (r12.1.2.2.2.2.2.2.2.2.2.2.2.2.2.2.1.length:Int))<=r2.1.2.2.2.2.2.2.2.2.2.2.2.2.2.2.1.length) then (qz (r12.1.2.2.2.2.2.2.2.2.2.2.2.2.2.2.1,List.take ((Int.toNat (r12.1.2.2.2.2.2.2.2.2.2.2.2.2.2.2.1.length:Int))-0) (List.drop 0 r2.1.2.2.2.2.2.2.2.2.2.2.2.2.2.2.1))).bind fun r13=> some !r13.1 else none else none).bind fun x14=> bif x14 then some (false,()) else (vG a0).bind fun r15=> (EW (r15.1.1,r15.1.2.1,r15.1.2.2)).bind fun r16=> (EY (r15.1.1,r15.1.2.1,r15.1.2.2)).bind fun r17=> (bif (r16.1.2.2.2.2.2.2.2 == r17.1.2.2.2.2.2.2.2) then (L_ ((r16.1.2.1,r16.1.2.2.1),(r17.1.2.1,r17.1.2.2.1))).bind fun r18=> some r18.1 else some false).bind fun x19=> some (x19,()) else none else none:=by kernel_rfl
end
end Go.Fw
