/- The given functions, as what they compute; each is shown to be what the code does. No conditions. -/
import Derived.Test.YtbdciplhpomakaaGreatX1
set_option linter.unusedSectionVars false
namespace Go.Fw
noncomputable section
def aiM:TC:=
 (zS [kX 1 0] (zQ (.seq (.join [⟨20,[.b],false⟩] 2097024 none (zR [iV 7 1 1 7,mr 9 8,bR 10 1 0,xn 12 9 11,M8 13 12 6 1 0 6,Ba 16 6 1 2 6,yH 144 15 17 18 18 6,tZ 19 18 6 13])) (zC 20 (zS [bB 2] .ret) .skip)) (zQ (.join [] 34357641236 (some [⟨2,[.b],false⟩]) (zS [bR 21 1 1,sw 23 22] (.block 0 (.loop [⟨24,[.i .i64],false⟩] 34342961172 (zS [gH 25 24 23] (zQ (zC 25 .skip (.exit 0)) (zQ (.block 1 (zS [nE 26 22 24 1,au 4 27] (zS [Tw 28 4 1 3,mr 31 30,zEt 32 48 28 1 31,jT 33 32] (zC 33 (zS [bB 2] .ret) .skip)))) (zR [mV 34 24])))))))) (zQ (.join [] 72057559678189636 (some [⟨2,[.b],false⟩]) (zS [bR 35 1 2,sw 37 36] (.block 2 (.loop [⟨38,[.i .i64],false⟩] 72057319160021060 (zS [gH 39 38 37] (zQ (zC 39 .skip (.exit 2)) (zQ (.block 3 (zS [kW 40 36 38 2 2,rC 6 1000000007,eB 6 6 41] (zS [pG 42 1 1 6 0,nE 46 43 45 1,pG 48 1 1 6 1,nE 52 49 51 1,pE 54 47 53] (zC 54 (zS [bB 2] .ret) .skip)))) (zR [mV 55 38])))))))) (zS [ic 2] .ret)))))
def aiN:aM:=⟨[.rd true pq],(.one false [.d])⟩
def aiO:aL:=aG [(144,xQ),(48,lm)]
def Xd (n:Nat):eO->Option ((Bool) × Unit):=aI n aiO aiM [bE] [.b] [] [2] .no
def Xe:=Xd BIG
def aiP:TSp:=⟨aiN,[bE],[.b],[],Ou.j .no,Xe⟩
theorem awx:zK aiO 60 aiN aiM 56 .no [2]:=by show _=_;kernel_rfl
theorem atU:aiP.Ok PG 60:=aQ (af Ar (af jW (az PG))) awx (by kernel_rfl)
theorem awy (n) (a0):Xd n a0 =
 (bif !decide ((a0.2.1.length:Int)=a0.1) then
  some true
  else (tO (a0.1,a0.2.2.1)).bind fun r0=>
  some !r0.1).bind fun x1=>
 bif x1 then
  some (false,())
 else (aK n (X:=Int) (B:=(Unit) ⊕ (Bool)) (fun self3 x2=>
  bif decide (x2<(a0.2.1.length:Int)) then
   bnd a0.2.1.length x2 fun n4=>
   a0.2.1[n4]?.bind fun y5=>
   (fw (y5,(1:Int),(a0.2.2.2.1.length:Int))).bind fun r6=>
   bif !r6.1 then
    some (Sum.inr false)
   else self3 (IntKind.wrap .i64 (x2+1))
  else some (Sum.inl ())) (0:Int)).bind fun y=>match y with
 | .inl x7=>
  (aK n (X:=Int) (B:=(Unit) ⊕ (Bool)) (fun self9 x8=>
   bif decide (x8<(a0.2.2.1.length:Int)) then
    bnd a0.2.2.1.length x8 fun n10=>
    a0.2.2.1[n10]?.bind fun y11=>
    bnd a0.2.1.length y11.1 fun n12=>
    a0.2.1[n12]?.bind fun y13=>
    bnd a0.2.1.length y11.2 fun n14=>
    a0.2.1[n14]?.bind fun y15=>
    bif decide (y13=y15) then
     some (Sum.inr false)
    else self9 (IntKind.wrap .i64 (x8+1))
   else some (Sum.inl ())) (0:Int)).bind fun y=>match y with
  | .inl x16=>
   some (true,())
  | .inr x16=>
   some (x16,())
 | .inr x7=>
  some (x7,()):=by kernel_rfl
def aeP:TC:=
 (zS [bO 4] (zQ (.join [] 1048560 (some [⟨4,[.i .i64],false⟩]) (zS [au 7 0,sw 8 7] (.block 0 (.loop [⟨9,[.i .i64],false⟩] 1048176 (zS [gH 10 9 8] (zQ (zC 10 .skip (.exit 0)) (zQ (.block 1 (zS [au 11 9,OJ 12 7 9 7 6 6,zEE 6 1000000007,au 5 11,eB 6 6 13] (zS [Gf 14 6 0 1,pE 17 15 16] (zC 17 (zS [M_ 18 5 4] .ret) .skip)))) (zR [BZ 19 9,au 9 19])))))))) (zS [zEj 4] .ret)))
def aeQ:aM:=⟨[.rd false Ct8,.rd false [.d]],(.one false [.d])⟩
def aeR:aL:=aG []
def P7 (n:Nat):(List vD) × Int->Option ((Int) × Unit):=aI n aeR aeP [Oy,[.i .i64]] [.i .i64] [] [4] .no
def Bl:=P7 BIG
def GK:TSp:=⟨aeQ,[Oy,[.i .i64]],[.i .i64],[],Ou.j .no,Bl⟩
theorem atW:zK aeR 49 aeQ aeP 20 .no [4]:=by show _=_;kernel_rfl
theorem LW:GK.Ok PG 49:=aQ (az PG) atW (by kernel_rfl)
theorem atX (n) (a0) (a1):P7 n (a0,a1) = (aK n (X:=Int) (B:=(Unit) ⊕ (Int)) (fun self1 x0=> bif decide (x0<(a0.length:Int)) then bnd a0.length x0 fun n2=> a0[n2]?.bind fun y3=> bif decide (y3.1=a1) then some (Sum.inr x0) else self1 (IntKind.wrap .i64 (x0+1)) else some (Sum.inl ())) (0:Int)).bind fun y=>match y with | .inl x4=> some ((-1:Int),()) | .inr x4=> some (x4,()):=by kernel_rfl
def aeS:TC:=
 (zS [bB 2] (zQ (.join [] 17179869180 (some [⟨2,[.b],false⟩]) (zS [au 5 0,sw 6 5] (.block 0 (.loop [⟨7,[.i .i64],false⟩] 17179869084 (zS [gH 8 7 6] (zQ (zC 8 .skip (.exit 0)) (zQ (.join [] 8589934108 (some [⟨2,[.b],false⟩]) (.block 1 (zS [au 9 7,OJ 10 5 7 5 6 6,zEE 4 1000000005,au 3 9,eB 4 4 11] (zQ (.join [⟨32,[.b],false⟩] 8589930496 none (zR [bR 12 4 0,YQ 14 4 1,xn 17 13 16,M8 18 17 6 4 5 6,YS 48 20 3 21 21 6 6 18,jN 25 0 12,jN 26 3 12,[o2 27 (.res 25 none (some (.t 26))) 12 false],JH 28 12 4 0,yH 49 27 29 30 30 12,zGq 31 30 0 12,ru 24 31 32])) (zC 32 (zS [bB 2] .ret) .skip))))) (zR [BZ 33 7,au 7 33])))))))) (zS [au 34 0,mr 35 34,zAy 36 35 80,au 2 36] .ret)))
def aeT:aM:=⟨[.rd false Ct8],(.one false [.d])⟩
def aeU:aL:=aG [(48,lm),(49,GK)]
def P8 (n:Nat):(List vD)->Option ((Bool) × Unit):=aI n aeU aeS [Oy] [.b] [] [2] .no
def P9:=P8 BIG
def aeV:TSp:=⟨aeT,[Oy],[.b],[],Ou.j .no,P9⟩
theorem atY:zK aeU 61 aeT aeS 37 .no [2]:=by show _=_;kernel_rfl
theorem aqz:aeV.Ok PG 61:=aQ (af jW (af LW (az PG))) atY (by kernel_rfl)
theorem atZ (n) (a0):P8 n a0 =
 (aK n (X:=Int) (B:=(Unit) ⊕ (Bool)) (fun self1 x0=>
  bif decide (x0<(a0.length:Int)) then
   (bnd a0.length x0 fun n2=>
    a0[n2]?.bind fun y3=>
    (bif !decide (y3.1=y3.2.1) then
     some true
     else (fw (y3.2.2.2.2.2,(1:Int),(3:Int))).bind fun r4=>
     bif !r4.1 then
      some true
     else bif decide (0<=x0) then
      bif decide (0<=(Int.toNat x0)/\(Int.toNat x0)<=a0.length) then
       (Bl (List.take ((Int.toNat x0)-0) (List.drop 0 a0),y3.1)).bind fun r5=>
       some (decide (0<=r5.1))
      else none
     else none).bind fun x6=>
    bif x6 then
     some (Sum.inr false)
    else some (Sum.inl ()):Option ((Unit) ⊕ (Bool))).bind fun y=>match y with
   | .inl x7=>
    self1 (IntKind.wrap .i64 (x0+1))
   | .inr x7=>
    some (Sum.inr x7)
  else some (Sum.inl ())) (0:Int)).bind fun y=>match y with
 | .inl x8=>
  some (decide ((a0.length:Int)<=80),())
 | .inr x8=>
  some (x8,()):=by kernel_rfl
def aeW:TC:=
 (zS [kX 1 0] (zS [jy 4,JE 5 1 5 4 4,zDp 3 1000000004,eB 3 3 5] (zQ (.join [⟨2,[.b],false⟩] 68719476676 none (zR [jy 6,JE 7 1 0 6 4,[o1 8 (.build fV [])],zEn 9 7 8,uB 10 9 4 1 4 4,OG 13 12 4,lN 10 13 14,wh 16 9 3 0 9,OG 18 17 9,lN 15 18 19,A_ 21 14 3 1,OG 23 22 14,lN 20 23 24,A_ 26 19 3 2,zHh 28 27 19,OG 29 28 19,lN 25 29 30,A_ 32 25 3 3,OG 34 33 25,nG 31 34 35 2])) .ret)))
def aeX:aM:=⟨[.rd true Ct6],(.one false [.d])⟩
def aeY:aL:=aG []
def P_ (n:Nat):apH->Option ((Bool) × Unit):=aI n aeY aeW [DY] [.b] [] [2] .no
def Qa:=P_ BIG
def aeZ:TSp:=⟨aeX,[DY],[.b],[],Ou.j .no,Qa⟩
theorem at0:zK aeY 145 aeX aeW 36 .no [2]:=by show _=_;kernel_rfl
theorem aqA:aeZ.Ok PG 145:=aQ (az PG) at0 (by kernel_rfl)
theorem at1 (n) (a0):P_ n a0 = (bif (decide (a0.1=0)&&(decide (a0.2.1=0)&&(decide (a0.2.2.1=0)&&(decide (a0.2.2.2.1=0)&&true)))) then bif decide (a0.2.2.2.2.1=0) then bif decide (a0.2.2.2.2.2.1=0) then bif decide (a0.2.2.2.2.2.2.1=0) then bif decide ((a0.2.2.2.2.2.2.2.1.length:Int)=0) then some (decide (a0.2.2.2.2.2.2.2.2=0)) else some false else some false else some false else some false else some false).bind fun x0=> some (x0,()):=by kernel_rfl
def ae0:TC:=
 (zS [dN 2 0,kX 3 1] (zS [iV 7 2 0 7,yI 9 8,au 5 9] (zS [bO 6] (zQ (.join [⟨6,[.i .i64],false⟩,⟨5,[.i .i64],false⟩] 64608 none (zS [bR 10 3 1,xm 12 11 4] (zC 12 (zR [YT 13 2 3,nZ 6 1,au 5 15]) .skip))) (zQ (.seq (.join [⟨36,[.b],false⟩] 137438887936 none (zR [bR 16 3 1,pz 18 48 17 4,Na 19 18 4 3 2 4,Ba 23 4 2 0 4,zEr 25 24 4,zEs 48 22 0 25 26 26 4,D_ 27 26 4 20,JH 30 13 3 3,jN 32 6 13,jN 33 5 13,[⟨false,[],[],.call 1 48 [.t 31,.t 32,.t 33] .no,[34],(some 34),some (13,false)⟩],tZ 35 34 13 29])) (zC 36 (zS [ic 4] .ret) .skip)) (zQ (.join [⟨4,[.b],false⟩] 4503462188417040 none (zR [pG 37 3 2 3 3,pE 41 38 40,uB 42 41 5 3 1 5,zIs 45 44 1 5,iJ 46 45 5,Ba 47 9 3 1 9,[o2 49 (.data (.bin .eql) [.t 48,kD 2]) 9 false,⟨false,[],[],.pick 46 (.c (.bool true)) (.t 49),[50],(some 50),some (5,true)⟩],nG 42 50 51 4])) .ret))))))
def ae1:aM:=⟨[.rd true pq,.rd true [.d,.d,.d,.d]],(.one false [.d])⟩
def ae2:aL:=aG [(48,lm)]
def Qb (n:Nat):eO × qP->Option ((Bool) × Unit):=aI n ae2 ae0 [bE,fV] [.b] [] [4] .no
def GL:=Qb BIG
def Qc:TSp:=⟨ae1,[bE,fV],[.b],[],Ou.j .no,GL⟩
theorem at5:zK ae2 134 ae1 ae0 52 .no [4]:=by show _=_;kernel_rfl
theorem aas:Qc.Ok PG 134:=aQ (af jW (az PG)) at5 (by kernel_rfl)
theorem at6 (n) (a0) (a1):Qb n (a0,a1) = (bif decide (a1.2.1=4) then some ((1:Int),(a0.2.2.2.1.length:Int)) else some ((0:Int),IntKind.wrap .i64 (a0.1-1)):Option aR).bind fun x0=> ((fw (a1.2.1,(1:Int),(4:Int))).bind fun r1=> bif !r1.1 then some true else (fw (a1.2.2.1,(0:Int),IntKind.wrap .i64 (a0.1-1))).bind fun r2=> bif !r2.1 then some true else (fw (a1.2.2.2,x0.1,x0.2)).bind fun r3=> some !r3.1).bind fun x4=> bif x4 then some (true,()) else (bif decide (a1.2.2.1=a1.2.2.2) then bif decide (a1.2.1=1) then some true else some (decide (a1.2.1=2)) else some false).bind fun x5=> some (x5,()):=by kernel_rfl
def aat:TC:=
 (zS [kX 3 1] (zQ (.seq (.join [⟨30,[.b],false⟩] 2147483616 none (zR [au 5 0,pz 6 48 5 12,jT 7 6,au 8 7,n_ 9 3,F9 10 3 0 9 3,YS 48 10 100000 11 11 3 3 8,jN 15 0 9,Ba 16 9 3 2 9,yH 144 15 17 18 18 9,D_ 19 18 9 14,JH 22 16 3 3,zID 24 23 16,jN 25 24 16,A_ 26 20 3 1,[o2 28 (.data (.bin .neq) [.t 27,kD 3]) 20 true],F_ 25 28 29 29 16 21])) (zC 30 (zS [bB 4] .ret) .skip)) (zQ (.join [] 576460750155939856 (some [⟨4,[.b],false⟩]) (zS [bR 31 3 1] (.block 0 (zQ (.join [⟨33,[.b],false⟩] 60129542144 none (zS [TH 34 32 1] (zC 33 .skip (zR [TH 35 32 2])))) (zC 33 (zS [YT 36 3 2,yN 39 38 1 4] .ret) (zS [yN 41 32 3 40] (zC 40 (zQ (.join [⟨4,[.b],false⟩] 9002801208229904 none (zR [YT 42 3 2,xm 45 44 0,uB 46 45 4 3 3 4,iJ 49 0 4,zMr 50 49 4 48 48 4,nG 46 51 52 4])) .ret) (zS [yN 54 32 4 53] (zC 53 (zS [YT 55 3 2,YH 58 57 0,au 4 58] .ret) .skip))))))))) (zS [bB 4] .ret))))
def aau:aM:=⟨[.rd false [.d],.rd true OC],(.one false [.d])⟩
def aav:aL:=aG [(48,lm),(144,xQ)]
def LX (n:Nat):Int × Eb->Option ((Bool) × Unit):=aI n aav aat [[.i .i64],kH] [.b] [] [4] .no
def CY:=LX BIG
def LY:TSp:=⟨aau,[[.i .i64],kH],[.b],[],Ou.j .no,CY⟩
theorem aqB:zK aav 64 aau aat 59 .no [4]:=by show _=_;kernel_rfl
theorem UV:LY.Ok PG 64:=aQ (af jW (af Ar (az PG))) aqB (by kernel_rfl)
theorem aqC (n) (a0) (a1):LX n (a0,a1) = ((fw (a0,(1:Int),(12:Int))).bind fun r0=> bif !r0.1 then some true else (fw (a1.1,(1:Int),(100000:Int))).bind fun r1=> bif !r1.1 then some true else (tO (a0,a1.2.2.1)).bind fun r2=> bif !r2.1 then some true else bif !decide (a1.2.2.2=0) then some (!decide (a1.2.1=3)) else some false).bind fun x3=> bif x3 then some (false,()) else ((bif decide (a1.2.1=1) then some true else some (decide (a1.2.1=2))).bind fun x4=> bif x4 then some (Sum.inr (decide ((a1.2.2.1.length:Int)=1))) else bif decide (a1.2.1=3) then (bif decide ((a1.2.2.1.length:Int)=0) then (fw (a1.2.2.2,(0:Int),IntKind.wrap .i64 (a0-1))).bind fun r5=> some r5.1 else some false).bind fun x6=> some (Sum.inr x6) else bif decide (a1.2.1=4) then some (Sum.inr (decide (0<(a1.2.2.1.length:Int)))) else some (Sum.inl ())).bind fun y=>match y with | .inl x7=> some (false,()) | .inr x7=> some (x7,()):=by kernel_rfl
def ae3:TC:=
 (zS [kX 1 0] (zS [jy 5,JE 6 1 5 5 9,zEw 3 1000000004,eB 3 3 6] (zQ (zS [dP 7 3 9,gI 8 145 7] (zC 8 (zS [ic 2] .ret) .skip)) (zS [jy 9,JE 10 3 0 9 4,zDk 4 1000000005,eB 4 4 10] (zQ (.seq (.join [⟨24,[.b],false⟩] 33552384 none (zR [bR 11 4 0,pz 13 48 12 100000,Na 14 13 4 4 1 4,[o2 18 (.data (.bin .eql) [.t 17,kD 3]) 4 false],ru 15 18 19,au 20 19,D8 21 1 15 9,TD 22 4 4 9 134 21 9,ru 20 23 24])) (zC 24 (zS [bB 2] .ret) .skip)) (zQ (.join [⟨2,[.b],false⟩] 1152921504573292548 none (zR [pG 25 3 4 1 3,mr 29 28,zEt 30 48 26 1 29,uB 31 30 6 1 0 6,ry 34 6,zEp 35 3 5 34 4 6,qj 64 33 35 36 36 6,lN 31 36 37,YN 39 13 3 5,OM 42 13 1 4 3 4,zDv 46 45 13,rA 47 43 46 13,Ca 48 43 1 47 13,zEz 49 48 13,D7 50 41 49 13,lN 38 50 51,OM 53 27 1 14 4 0,qj 49 54 56 57 57 27,zAi 58 57 0 27,nG 52 58 59 2])) .ret))))))
def ae4:aM:=⟨[.rd true pq],(.one false [.d])⟩
def ae5:aL:=aG [(145,aeZ),(48,lm),(134,Qc),(64,LY),(49,GK)]
def Qd (n:Nat):eO->Option ((Bool) × Unit):=aI n ae5 ae3 [bE] [.b] [] [2] .no
def Qe:=Qd BIG
def ae6:TSp:=⟨ae4,[bE],[.b],[],Ou.j .no,Qe⟩
theorem at7:zK ae5 62 ae4 ae3 60 .no [2]:=by show _=_;kernel_rfl
theorem aqD:ae6.Ok PG 62:=aQ (af aqA (af jW (af aas (af UV (af LW (az PG)))))) at7 (by kernel_rfl)
theorem aua (n) (a0):Qd n a0 = (Qa (a0.2.2.2.2.2.1,a0.2.2.2.2.2.2.1,a0.2.2.2.2.2.2.2.1,a0.2.2.2.2.2.2.2.2.1,a0.2.2.2.2.2.2.2.2.2.1,a0.2.2.2.2.2.2.2.2.2.2.1,a0.2.2.2.2.2.2.2.2.2.2.2.1,a0.2.2.2.2.2.2.2.2.2.2.2.2.1,a0.2.2.2.2.2.2.2.2.2.2.2.2.2.1)).bind fun r0=> bif r0.1 then some (true,()) else ((fw (a0.2.2.2.2.2.1,(1:Int),(100000:Int))).bind fun r1=> bif !r1.1 then some true else bif decide (a0.2.2.2.2.2.2.1=3) then some true else (GL (a0,(a0.2.2.2.2.2.1,a0.2.2.2.2.2.2.1,a0.2.2.2.2.2.2.2.1,a0.2.2.2.2.2.2.2.2.1))).bind fun r2=> some r2.1).bind fun x3=> bif x3 then some (false,()) else ((fw (a0.2.2.2.2.2.2.2.2.2.1,(1:Int),(a0.2.2.2.1.length:Int))).bind fun r4=> bif r4.1 then (CY (a0.1,(a0.2.2.2.2.2.2.2.2.2.2.1,a0.2.2.2.2.2.2.2.2.2.2.2.1,a0.2.2.2.2.2.2.2.2.2.2.2.2.1,a0.2.2.2.2.2.2.2.2.2.2.2.2.2.1))).bind fun r5=> bif r5.1 then bnd a0.2.2.2.2.1.length (IntKind.wrap .i64 (a0.2.2.2.2.2.2.2.2.2.1-1)) fun n6=> a0.2.2.2.2.1[n6]?.bind fun y7=> bif decide (a0.2.2.2.2.2.2.2.2.2.2.1=(IntKind.wrap .i64 (y7+1))) then (Bl (a0.2.2.2.2.2.2.2.2.2.2.2.2.2.2,a0.2.2.2.2.2.1)).bind fun r8=> some (decide (r8.1<0)) else some false else some false else some false).bind fun x9=> some (x9,()):=by kernel_rfl
def ae7:TC:=
 (zS [kX 1 0] (zQ (.seq (.join [⟨24,[.b],false⟩] 33554400 none (zR [iV 5 1 0 5,pz 7 48 6 12,jT 8 7,M8 9 8 4 1 3 4,JG 12 11 4,YS 48 12 3 13 13 4 4 9,zLB 17 11 1 4,zLB 20 11 1 3,JJ 23 19 22 11 16])) (zC 24 (zS [bB 2] .ret) .skip)) (zQ (.join [] 281474943156252 (some [⟨2,[.b],false⟩]) (zS [bR 25 1 3,sw 27 26] (.block 0 (.loop [⟨28,[.i .i64],false⟩] 281474708275228 (zS [gH 29 28 27] (zQ (zC 29 .skip (.exit 0)) (zQ (.join [] 140736414613532 (some [⟨2,[.b],false⟩]) (.block 1 (zS [au 30 28,nE 31 26 28 1,au 3 30,au 4 32] (zQ (.join [⟨46,[.b],false⟩] 140728898420736 none (zR [Gf 33 1 0 4,jO 36 59 34 35,Na 37 36 5 1 4 5,YP 41 3 5 40 5,YL 43 40 1 42 5,zED 48 43 0 99991 44 44 5,tZ 45 44 5 38])) (zC 46 (zS [bB 2] .ret) .skip))))) (zR [mV 47 28])))))))) (zQ (.join [⟨2,[.b],false⟩] 576179277326712836 none (zR [Bc 48 1 15 60,uB 50 49 2 1 14 2,zHj 61 52 53 53 2,lN 50 53 54,zEA 56 1 15 7,zHj 62 56 57 57 7,nG 55 57 58 2])) .ret))))
def ae8:aM:=⟨[.rd true pq],(.one false [.d])⟩
def ae9:aL:=aG [(48,lm),(59,IL),(60,aiP),(61,aeV),(62,ae6)]
def Qf (n:Nat):eO->Option ((Bool) × Unit):=aI n ae9 ae7 [bE] [.b] [] [2] .no
def wz:=Qf BIG
def GM:TSp:=⟨ae8,[bE],[.b],[],Ou.j .no,wz⟩
theorem aub:zK ae9 12 ae8 ae7 59 .no [2]:=by show _=_;kernel_rfl
theorem LZ:GM.Ok PG 12:=aQ (af jW (af PZ (af atU (af aqz (af aqD (az PG)))))) aub (by kernel_rfl)
theorem auc (n) (a0):Qf n a0 =
 ((fw (a0.1,(1:Int),(12:Int))).bind fun r0=>
  bif !r0.1 then
   some true
  else (fw ((a0.2.2.2.1.length:Int),(1:Int),(3:Int))).bind fun r1=>
  bif !r1.1 then
   some true
  else some (!decide ((a0.2.2.2.2.1.length:Int)=(a0.2.2.2.1.length:Int)))).bind fun x2=>
 bif x2 then
  some (false,())
 else (aK n (X:=Int) (B:=(Unit) ⊕ (Bool)) (fun self4 x3=>
  bif decide (x3<(a0.2.2.2.1.length:Int)) then
   (bnd a0.2.2.2.1.length x3 fun n5=>
    a0.2.2.2.1[n5]?.bind fun y6=>
    ((Aq (a0.1,y6)).bind fun r7=>
     bif !r7.1 then
      some true
     else bnd a0.2.2.2.2.1.length x3 fun n8=>
     a0.2.2.2.2.1[n8]?.bind fun y9=>
     (fw (y9,(0:Int),(99991:Int))).bind fun r10=>
     some !r10.1).bind fun x11=>
    bif x11 then
     some (Sum.inr false)
    else some (Sum.inl ())).bind fun y=>match y with
   | .inl x12=>
    self4 (IntKind.wrap .i64 (x3+1))
   | .inr x12=>
    some (Sum.inr x12)
  else some (Sum.inl ())) (0:Int)).bind fun y=>match y with
 | .inl x13=>
  ((Xe a0).bind fun r14=>
   bif r14.1 then
    (P9 a0.2.2.2.2.2.2.2.2.2.2.2.2.2.2).bind fun r15=>
    bif r15.1 then
     (Qe a0).bind fun r16=>
     some r16.1
    else some false
   else some false).bind fun x17=>
  some (x17,())
 | .inr x13=>
  some (x13,()):=by kernel_rfl
def anP:TC:=
 (zS [kX 1 0] (zS [jy 3,JC 4 3,OE 5 1 9 4,zDi 6 5 0,au 2 6] .ret))
def anQ:aM:=⟨[.rd true pq],(.one false [.d])⟩
def anR:aL:=aG []
def anS (n:Nat):eO->Option ((Bool) × Unit):=aI n anR anP [bE] [.b] [] [2] .no
def SA:=anS BIG
def acG:TSp:=⟨anQ,[bE],[.b],[],Ou.j .no,SA⟩
theorem azT:zK anR 13 anQ anP 7 .no [2]:=by show _=_;kernel_rfl
theorem aiQ:acG.Ok PG 13:=aQ (az PG) azT (by kernel_rfl)
theorem azU (n) (a0):anS n a0 = some (!decide (a0.2.2.2.2.2.2.2.2.2.1=0),()):=by kernel_rfl
def UW:TC:=
 (zS [dN 4 1,bO 6] (zS [dD 7,dD 8,au 15 2,su 9 8,JC 10 9,zGb 11 14 10,bR 12 4 0,dP 14 4 4,zGc 16 13 14 15,zGd 17 16,zBt 11 11 17 18 11 11 0 18,nD 19 7,zBu 0 18 11 0 14 20 18] (zS [nZ 6 1] .ret)))
def UX:aM:=⟨[.mp pq,.rd true [.d,.d,.d,.d],.rd false [.d]],(.one false [.d])⟩
def UY:aL:=aG []
def IM (n:Nat):eO × qP × Int->Option ((Int) × Int × List Int × List aR × List (List Int) × List Int × Int × Int × Int × Int × Int × Int × Int × List aR × Int × List vD):=aI n UY UW [bE,fV,[.i .i64]] [.i .i64] bE [6] (.mp 0)
def iq:=IM BIG
def uE:TSp:=⟨UX,[bE,fV,[.i .i64]],[.i .i64],bE,Ou.j (.mp 0),iq⟩
theorem alM:zK UY 73 UX UW 21 (.mp 0) [6]:=by show _=_;kernel_rfl
theorem xR:uE.Ok PG 73:=aQ (az PG) alM (by kernel_rfl)
theorem alN (n) (a0) (a1) (a2):IM n (a0,a1,a2) = bif decide (a0.2.2.2.2.2.2.2.2.2.2.2.2.2.2.length+([(a1.1,a1.1,a1.2.1,a1.2.2.1,a1.2.2.2,a2)]).length<=4294967296) then some ((1:Int),(a0.1,a0.2.1,a0.2.2.1,a0.2.2.2.1,a0.2.2.2.2.1,a0.2.2.2.2.2.1,a0.2.2.2.2.2.2.1,a0.2.2.2.2.2.2.2.1,a0.2.2.2.2.2.2.2.2.1,a0.2.2.2.2.2.2.2.2.2.1,a0.2.2.2.2.2.2.2.2.2.2.1,a0.2.2.2.2.2.2.2.2.2.2.2.1,a0.2.2.2.2.2.2.2.2.2.2.2.2.1,a0.2.2.2.2.2.2.2.2.2.2.2.2.2.1,a0.2.2.2.2.2.2.2.2.2.2.2.2.2.2++([(a1.1,a1.1,a1.2.1,a1.2.2.1,a1.2.2.2,a2)]))) else none:=by kernel_rfl
def Xf:TC:=
 (zS [bB 6] (zS [Gd 10 0 1,Gd 14 0 2,JI 12 10 11 0 1,JI 16 14 15 0 1,dz 7 13 17] (zQ (zS [dz 18 7 8,pE 20 18 19] (zC 20 (zS [bB 6] .ret) .skip)) (zQ (.join [⟨0,[.sl [.i .i64]],false⟩] 2199021158913 none (zS [gp 21 0,sw 22 21] (.block 0 (.loop [⟨0,[.sl [.i .i64]],false⟩,⟨23,[.i .i64],false⟩] 2199016982017 (zS [gH 24 23 22] (zQ (zC 24 .skip (.exit 0)) (zQ (.join [⟨0,[.sl [.i .i64]],false⟩] 1099478073857 none (.block 1 (zS [M_ 25 23 9] (zS [Gd 26 0 9,JI 28 26 27 0 1,dz 30 7 8,[o1 32 (.data .max [.t 30,.t 31])],pE 33 29 32] (zC 33 (zR [gp 34 0,dz 35 9 7,au 37 8,[o1 38 (.data .min [.t 36,.t 37])],xg 39 34 35,[o4 1 [0,26,34] (.store 0 [(0,1)] 0 (.t 39) (.t 38))]]) .skip))))) (zR [mV 40 23])))))))) (zS [ic 6] .ret)))))
def aiR:aM:=⟨[.mt false fG,.rd false [.d],.rd false [.d]],(.one false [.d])⟩
def Xg:aL:=aG []
def Xh (n:Nat):List Int × Int × Int->Option ((Bool) × List Int):=aI n Xg Xf [[.sl [.i .i64]],[.i .i64],[.i .i64]] [.b] [.sl [.i .i64]] [6] (.mt 0 0 0)
def zI:=Xh BIG
def L6:TSp:=⟨aiR,[[.sl [.i .i64]],[.i .i64],[.i .i64]],[.b],[.sl [.i .i64]],Ou.j (.mt 0 0 0),zI⟩
theorem awz:ahX PG Xg 188 aiR (Xf.ht 41) (.mt 0 0 0)=some (Xf.wc Xg,[6]):=by kernel_rfl
theorem Qg:L6.Ok PG 188:=aQ (az PG) awz (by kernel_rfl)
theorem awC (n) (a0) (a1) (a2):Xh n (a0,a1,a2) = bnd a0.length a1 fun n0=> a0[n0]?.bind fun y1=> bnd a0.length a2 fun n2=> a0[n2]?.bind fun y3=> bif decide (y1=y3) then some (false,a0) else (aK n (X:=(List Int) × Int) (B:=(List Int)) (fun self5 x4=> bif decide (x4.2<(a0.length:Int)) then (bnd x4.1.length x4.2 fun n6=> x4.1[n6]?.bind fun y7=> bif decide (y7=(if y3 > y1 then y3 else y1)) then bnd x4.1.length x4.2 fun n8=> x4.1[n8]?.bind fun y9=> some (x4.1.set n8 (if y3<y1 then y3 else y1)) else some x4.1).bind fun x10=> self5 (x10,IntKind.wrap .i64 (x4.2+1)) else some x4.1) (a0,(0:Int))).bind fun x11=> some (true,x11):=by kernel_rfl
def J2:TC:=
 (zS [yF 6,bB 7] (zQ (.seq (.join [⟨22,[.b],false⟩] 8355840 none (zR [au 15 0,pz 16 48 15 12,JM 17 16 1 3,JG 20 19 3,zDD 21 20 3 3,ru 18 21 22])) (zC 22 (zS [yF 6,bB 7] .ret) .skip)) (zS [au 23 0,YR 24 177 23 8] (zQ (.join [⟨8,[.sl [.i .i64]],false⟩] 4503599593823680 (some [⟨6,[.sl [.i .i64]],false⟩,⟨7,[.b],false⟩]) (zS [M7 25 1] (.block 0 (.loop [⟨8,[.sl [.i .i64]],false⟩,⟨27,[.i .i64],false⟩] 4503599493160384 (zS [gH 28 27 26] (zQ (zC 28 .skip (.exit 0)) (zQ (.join [⟨8,[.sl [.i .i64]],false⟩] 2251799276821952 (some [⟨6,[.sl [.i .i64]],false⟩,⟨7,[.b],false⟩]) (.block 1 (zS [nE 29 25 27 1,au 10 30] (zQ (zS [au 31 10,mr 32 31,au 33 0,xn 34 32 33] (zC 34 (zS [yF 6,bB 7] .ret) .skip)) (zS [M7 35 10] (.block 2 (.loop [⟨8,[.sl [.i .i64]],false⟩,⟨37,[.i .i64],false⟩] 2251662374738368 (zS [gH 38 37 36] (zQ (zC 38 .skip (.exit 2)) (zQ (.block 3 (zS [au 39 37,nE 40 35 37 1,au 11 39,au 12 41] (zQ (zS [dz 42 12 11,YK 44 48 42 43,jT 45 44] (zC 45 (zS [yF 6,bB 7] .ret) .skip)) (zR [gp 46 8,dz 47 12 11,zIE 46 47 48 8 46 49 8 46 49])))) (zR [mV 50 37]))))))))))) (zR [mV 51 27])))))))) (zQ (.join [⟨8,[.sl [.i .i64]],false⟩] 590291306759078298048 (some [⟨6,[.sl [.i .i64]],false⟩,⟨7,[.b],false⟩]) (zS [M7 52 2] (.block 4 (.loop [⟨8,[.sl [.i .i64]],false⟩,⟨54,[.i .i64],false⟩] 590277795960196186560 (zS [gH 55 54 53] (zQ (zC 55 .skip (.exit 4)) (zQ (.block 5 (zS [kW 56 52 54 2 2,rC 14 1000000015,eB 14 14 57] (zQ (zS [au 58 0,yK 59 14 2 189 58,jT 61 60] (zC 61 (zS [yF 6,bB 7] .ret) .skip)) (zR [gp 62 8,bR 63 14 0,bR 65 14 1,zIE 62 64 66 8 62 67 8 62 67])))) (zR [mV 68 54])))))))) (zS [t_ 8 69 8 6,ic 7] .ret))))))
def J3:aM:=⟨[.rd false [.d],.rd false [.sl (.own none) fG],.rd false iM],(.tup [(false,1),(false,1)] apG)⟩
def J4:aL:=aG [(48,lm),(177,EB),(188,L6),(189,GJ)]
def zJ (n:Nat):Int × List (List Int) × (List aR)->Option ((List Int × Bool) × Unit):=aI n J4 J2 [[.i .i64],[.sl [.sl [.i .i64]]],[.sl [.i .i64,.i .i64]]] [.sl [.i .i64],.b] [] [6,7] .no
def zM:=zJ BIG
def J5:TSp:=⟨J3,[[.i .i64],[.sl [.sl [.i .i64]]],[.sl [.i .i64,.i .i64]]],[.sl [.i .i64],.b],[],Ou.j .no,zM⟩
theorem acH:zK J4 135 J3 J2 70 .no [6,7]:=by show _=_;kernel_rfl
theorem aaw:J5.Ok PG 135:=aQ (af jW (af GI (af Qg (af LQ (az PG))))) acH (by kernel_rfl)
theorem acI (n) (a0) (a1) (a2):zJ n (a0,a1,a2) =
 ((fw (a0,(1:Int),(12:Int))).bind fun r0=>
  bif !r0.1 then
   some true
  else some (decide (3<(a1.length:Int)))).bind fun x1=>
 bif x1 then
  some (([],false),())
 else (zF a0).bind fun r2=>
 (aK n (X:=(List Int) × Int) (B:=((List Int)) ⊕ ((List Int) × Bool)) (fun self4 x3=>
  bif decide (x3.2<(a1.length:Int)) then
   (bnd a1.length x3.2 fun n5=>
    a1[n5]?.bind fun y6=>
    bif !decide ((y6.length:Int)=a0) then
     some (Sum.inr ([],false))
    else aK n (X:=(List Int) × Int) (B:=((List Int)) ⊕ ((List Int) × Bool)) (fun self8 x7=>
     bif decide (x7.2<(y6.length:Int)) then
      bnd y6.length x7.2 fun n9=>
      y6[n9]?.bind fun y10=>
      (fw (y10,(0:Int),x7.2)).bind fun r11=>
      bif !r11.1 then
       some (Sum.inr ([],false))
      else (zI (x7.1,y10,x7.2)).bind fun r12=>
      self8 (r12.2,IntKind.wrap .i64 (x7.2+1))
     else some (Sum.inl x7.1)) (x3.1,(0:Int)):Option (((List Int)) ⊕ ((List Int) × Bool))).bind fun y=>match y with
   | .inl x13=>
    self4 (x13,IntKind.wrap .i64 (x3.2+1))
   | .inr x13=>
    some (Sum.inr (x13.1,x13.2))
  else some (Sum.inl x3.1)) (r2.1,(0:Int))).bind fun y=>match y with
 | .inl x14=>
  (aK n (X:=(List Int) × Int) (B:=((List Int)) ⊕ ((List Int) × Bool)) (fun self16 x15=>
   bif decide (x15.2<(a2.length:Int)) then
    bnd a2.length x15.2 fun n17=>
    a2[n17]?.bind fun y18=>
    (Bj (a0,y18)).bind fun r19=>
    bif !r19.1 then
     some (Sum.inr ([],false))
    else (zI (x15.1,y18.1,y18.2)).bind fun r20=>
    self16 (r20.2,IntKind.wrap .i64 (x15.2+1))
   else some (Sum.inl x15.1)) (x14,(0:Int))).bind fun y=>match y with
  | .inl x21=>
   some ((x21,true),())
  | .inr x21=>
   some (x21,())
 | .inr x14=>
  some (x14,()):=by kernel_rfl
def aiS:TC:=
 (zS [bO 2] (zQ (zS [au 3 0] (zC 3 (zS [nZ 2 1] .ret) .skip)) (zS [nZ 2 2] .ret)))
def aiT:aM:=⟨[.rd false [.d]],(.one false [.d])⟩
def aiU:aL:=aG []
def Xi (n:Nat):Bool->Option ((Int) × Unit):=aI n aiU aiS [[.b]] [.i .i64] [] [2] .no
def L8:=Xi BIG
def Xj:TSp:=⟨aiT,[[.b]],[.i .i64],[],Ou.j .no,L8⟩
theorem awD:zK aiU 74 aiT aiS 4 .no [2]:=by show _=_;kernel_rfl
theorem ae_:Xj.Ok PG 74:=aQ (az PG) awD (by kernel_rfl)
theorem awE (n) (a0):Xi n a0 = bif a0 then some ((1:Int),()) else some ((2:Int),()):=by kernel_rfl
def Nq:TC:=
 (zS [dN 5 1,[o5 (.a (.t 3)) 7 3],bO 8] (zS [dD 9,Bb 10 9 4,au 13 2,yI 14 13,Gb 15 12 14 0 4 1,BZ 17 16,M9 18 7 7 0 17] (zS [yM 19 5 4,au 21 2,iZ 22 7 4,zGj,nD 24 19,zGk] (zS [nZ 8 2] .ret))))
def Nr:aM:=⟨[.mp pq,.rd true [.d,.d,.d,.d],.rd false [.d],.tk true OC],(.one false [.d])⟩
def Ns:aL:=aG []
def uS (n:Nat):eO × qP × Int × Eb->Option ((Int) × Int × List Int × List aR × List (List Int) × List Int × Int × Int × Int × Int × Int × Int × Int × List aR × Int × List vD):=aI n Ns Nq [bE,fV,[.i .i64],kH] [.i .i64] bE [8] (.mp 0)
def lK:=uS BIG
def uT:TSp:=⟨Nr,[bE,fV,[.i .i64],kH],[.i .i64],bE,Ou.j (.mp 0),lK⟩
theorem af7:zK Ns 136 Nr Nq 26 (.mp 0) [8]:=by show _=_;kernel_rfl
theorem zN:uT.Ok PG 136:=aQ (az PG) af7 (by kernel_rfl)
theorem Nt (n) (a0) (a1) (a2) (a3):uS n (a0,a1,a2,a3) = bnd a0.2.2.2.2.1.length (IntKind.wrap .i64 (a2-1)) fun n0=> a0.2.2.2.2.1[n0]?.bind fun y1=> some ((2:Int),(a0.1,a0.2.1,a0.2.2.1,a0.2.2.2.1,a0.2.2.2.2.1,a1.1,a1.2.1,a1.2.2.1,a1.2.2.2,a2,IntKind.wrap .i64 (y1+1),a3.2.1,a3.2.2.1,a3.2.2.2,a0.2.2.2.2.2.2.2.2.2.2.2.2.2.2)):=by kernel_rfl
def afa:TC:=
 (zS [dN 1 0,rC 2 1000000003] (zS [iV 3 1 2 3,iV 5 1 3 5,[o1 7 (.data .min [.t 4,.t 6])],iV 8 1 2 8,bR 10 1 3,[o1 12 (.data .max [.t 9,.t 11])],M3 13 7 12,eB 2 2 13] .ret))
def afb:aM:=⟨[.rd true [.d,.d,.d,.d]],(.one true [.d,.d])⟩
def afc:aL:=aG []
def Qh (n:Nat):qP->Option (aR × Unit):=aI n afc afa [fV] [.i .i64,.i .i64] [] [2] .no
def Qi:=Qh BIG
def afd:TSp:=⟨afb,[fV],[.i .i64,.i .i64],[],Ou.j .no,Qi⟩
theorem aud:zK afc 190 afb afa 14 .no [2]:=by show _=_;kernel_rfl
theorem aqE:afd.Ok PG 190:=aQ (az PG) aud (by kernel_rfl)
theorem aue (n) (a0):Qh n a0 = some (((if a0.2.2.2<a0.2.2.1 then a0.2.2.2 else a0.2.2.1),(if a0.2.2.2 > a0.2.2.1 then a0.2.2.2 else a0.2.2.1)),()):=by kernel_rfl
def aax:TC:=
 (zS [kX 3 1] (zQ (.join [] 131024 (some [⟨4,[.b],false⟩]) (zS [au 7 0,sw 8 7] (.block 0 (.loop [⟨9,[.i .i64],false⟩] 130640 (zS [gH 10 9 8] (zQ (zC 10 .skip (.exit 0)) (zQ (.block 1 (zS [OJ 11 7 9 7 2 2,rC 6 1000000007,eB 6 6 12] (zS [dP 13 6 2,dP 14 3 2,[o1 15 (.eqA [.i,.i] (.t 13) (.t 14) false)]] (zC 15 (zS [ic 4] .ret) .skip)))) (zR [BZ 16 9,au 9 16])))))))) (zS [bB 4] .ret)))
def aay:aM:=⟨[.rd false iM,.rd true [.d,.d]],(.one false [.d])⟩
def aaz:aL:=aG []
def L9 (n:Nat):(List aR) × aR->Option ((Bool) × Unit):=aI n aaz aax [[.sl [.i .i64,.i .i64]],[.i .i64,.i .i64]] [.b] [] [4] .no
def xS:=L9 BIG
def CZ:TSp:=⟨aay,[[.sl [.i .i64,.i .i64]],[.i .i64,.i .i64]],[.b],[],Ou.j .no,xS⟩
theorem aqF:zK aaz 155 aay aax 17 .no [4]:=by show _=_;kernel_rfl
theorem IP:CZ.Ok PG 155:=aQ (az PG) aqF (by kernel_rfl)
theorem aqG (n) (a0) (a1):L9 n (a0,a1) = (aK n (X:=Int) (B:=(Unit) ⊕ (Bool)) (fun self1 x0=> bif decide (x0<(a0.length:Int)) then bnd a0.length x0 fun n2=> a0[n2]?.bind fun y3=> bif (decide (y3.1=a1.1)&&(decide (y3.2=a1.2)&&true)) then some (Sum.inr true) else self1 (IntKind.wrap .i64 (x0+1)) else some (Sum.inl ())) (0:Int)).bind fun y=>match y with | .inl x4=> some (false,()) | .inr x4=> some (x4,()):=by kernel_rfl
def UZ:TC:=
 (zS [dN 3 1,A9 4] (zS [bO 5] (zQ (.join [⟨5,[.i .i64],false⟩] 1048544 none (.block 0 (.loop [⟨5,[.i .i64],false⟩] 1048544 (zQ (.seq (.join [⟨17,[.b],false⟩] 262080 none (zR [dz 6 5 0,mr 8 7,gH 9 6 8,Cc 10 9 0 4,iJ 12 5 4,rA 13 11 12 4,zEa 14 11 2 13 2 4,zEA 15 3 2 4,qj 192 14 15 16 16 4,pu 10 16 17])) (zC 17 .skip (.exit 0))) (.block 1 (zR [ig 18 5 5])))))) (zS [dz 20 0 5,dz 27 0 5,[o1 22 (.res 20 none (some (.t 21)))],zIC 23 22,dP 24 3 2,zGh 25 24,yG 23 25 26 23,[o1 29 (.res 27 (some (.t 28)) none)],M6 26 29 30 26 4] .ret))))
def U0:aM:=⟨[.rd false iM,.rd true [.d,.d]],(.one false iM)⟩
def U1:aL:=aG [(192,LU)]
def IQ (n:Nat):(List aR) × aR->Option ((List aR) × Unit):=aI n U1 UZ [[.sl [.i .i64,.i .i64]],[.i .i64,.i .i64]] [.sl [.i .i64,.i .i64]] [] [4] .no
def uF:=IQ BIG
def Au:TSp:=⟨U0,[[.sl [.i .i64,.i .i64]],[.i .i64,.i .i64]],[.sl [.i .i64,.i .i64]],[],Ou.j .no,uF⟩
theorem alO:zK U1 156 U0 UZ 31 .no [4]:=by show _=_;kernel_rfl
theorem EF:Au.Ok PG 156:=aQ (af P6 (az PG)) alO (by kernel_rfl)
theorem alP (n) (a0) (a1):IQ n (a0,a1) = (aK n (X:=Int) (B:=Int) (fun self1 x0=> (bif decide (x0<(a0.length:Int)) then bnd a0.length x0 fun n2=> a0[n2]?.bind fun y3=> (zG (y3,a1)).bind fun r4=> some r4.1 else some false).bind fun x5=> bif x5 then self1 (IntKind.wrap .i64 (x0+1)) else some x0) (0:Int)).bind fun x6=> bif decide (0<=x6) then bif decide (0<=(Int.toNat x6)/\(Int.toNat x6)<=a0.length) then bif decide ((List.take ((Int.toNat x6)-0) (List.drop 0 a0)).length<=4294967296) then bif decide ((List.take ((Int.toNat x6)-0) (List.drop 0 a0)).length+[a1].length<=4294967296) then bif decide (0<=x6) then bif decide ((Int.toNat x6)<=a0.length/\a0.length<=a0.length) then bif decide (((List.take ((Int.toNat x6)-0) (List.drop 0 a0))++[a1]).length+(List.take (a0.length-(Int.toNat x6)) (List.drop (Int.toNat x6) a0)).length<=4294967296) then some (((List.take ((Int.toNat x6)-0) (List.drop 0 a0))++[a1])++(List.take (a0.length-(Int.toNat x6)) (List.drop (Int.toNat x6) a0)),()) else none else none else none else none else none else none else none:=by kernel_rfl
def J6:TC:=
 (zS [dN 3 1,A9 4] (zS [A9 5] (zQ (.join [⟨5,[.sl [.i .i64,.i .i64]],false⟩] 4194208 none (zS [au 8 0,sw 9 8] (.block 0 (.loop [⟨5,[.sl [.i .i64,.i .i64]],false⟩,⟨10,[.i .i64],false⟩] 4193440 (zS [gH 11 10 9] (zQ (zC 11 .skip (.exit 0)) (zQ (.join [⟨5,[.sl [.i .i64,.i .i64]],false⟩] 2093216 none (.block 1 (zS [OJ 12 8 10 8 2 2,rC 7 1000000008,eB 7 7 13] (zS [dP 14 7 2,dP 15 3 2,zEk 16 14 15] (zC 16 (zR [dK 5 17 5,dP 18 7 2,JL 19 18 17 17 5]) .skip))))) (zR [mV 21 10])))))))) (zS [t_ 5 22 5 4] .ret))))
def J7:aM:=⟨[.rd false iM,.rd true [.d,.d]],(.one false iM)⟩
def J8:aL:=aG []
def zO (n:Nat):(List aR) × aR->Option ((List aR) × Unit):=aI n J8 J6 [[.sl [.i .i64,.i .i64]],[.i .i64,.i .i64]] [.sl [.i .i64,.i .i64]] [] [4] .no
def tQ:=zO BIG
def zP:TSp:=⟨J7,[[.sl [.i .i64,.i .i64]],[.i .i64,.i .i64]],[.sl [.i .i64,.i .i64]],[],Ou.j .no,tQ⟩
theorem acJ:zK J8 158 J7 J6 23 .no [4]:=by show _=_;kernel_rfl
theorem GN:zP.Ok PG 158:=aQ (az PG) acJ (by kernel_rfl)
theorem acK (n) (a0) (a1):zO n (a0,a1) = (aK n (X:=(List aR) × Int) (B:=(List aR)) (fun self1 x0=> bif decide (x0.2<(a0.length:Int)) then (bnd a0.length x0.2 fun n2=> a0[n2]?.bind fun y3=> bif !(decide (y3.1=a1.1)&&(decide (y3.2=a1.2)&&true)) then bif decide (x0.1.length+[y3].length<=4294967296) then some (x0.1++[y3]) else none else some x0.1:Option ((List aR))).bind fun x4=> self1 (x4,IntKind.wrap .i64 (x0.2+1)) else some x0.1) ([],(0:Int))).bind fun x5=> some (x5,()):=by kernel_rfl
def Qj:TC:=
 (zS [dN 3 1,bO 4] (zS [dP 7 3 4,gI 8 190 7,rC 5 1000000006,eB 5 5 8] (zS [dD 9,Bb 10 9 2,yK 13 5 2 155 12,au 6 14] (zQ (.join [⟨0,bE,false⟩] 10633823966279326983230456482242727953 (some [⟨4,[.i .i64],false⟩,⟨0,bE,false⟩]) (.block 0 (zQ (.join [⟨15,[.b],false⟩] 274877874176 none (zR [dD 16,dD 24,Bb 17 16 1,bR 20 5 0,Gb 22 19 21 0 1 1,Bb 25 24 1,bR 28 5 1,Gb 30 27 29 0 1 1,pE 32 23 31,au 33 32,A_ 34 17 3 1,zIs 36 35 1 17,nG 33 36 37 15])) (zC 15 (zS [dD 38,dD 40,zGu 1000000002 4 39 39,zMk 1000000002 40 41 41 0 1,zMh 1000000002 44 44 5 0 43,zGy 1000000002 0 1 1 46 47 47,dP 48 5 2,zGh 49 48,zIr 1 49 50 49 50,[⟨false,[],[],.call 3 136 [.t 0,.t 39,.t 47,.t 50] (.mp 0),[51,0,50,12,19,22,27,30,46,43],(some 51),none⟩],au 4 51] .ret) (zS [dD 53,dD 61,Bb 54 53 1,bR 57 5 0,Gb 59 56 58 0 1 1,Bb 62 61 1,bR 65 5 1,Gb 67 64 66 0 1 1,pE 69 60 68,au 52 69] (zC 52 (zS [dD 70,dD 72,zGu 1000000002 4 71 71,zMk 1000000002 72 73 73 0 1,zMh 1000000002 76 76 5 0 75,zGy 1000000002 0 1 1 78 79 79,dP 80 5 2,zGh 81 80,zIr 2 81 82 81 82,[⟨false,[],[],.call 3 136 [.t 0,.t 71,.t 79,.t 82] (.mp 0),[83,0,82,12,19,22,27,30,56,59,64,67,78,75],(some 83),none⟩],au 4 83] .ret) (zQ (.join [⟨84,[.b],false⟩] 4932417344027687032801198080 none (zR [bR 85 3 1,xm 87 86 1,Cc 88 87 6 3,zEc 90 89 3,nG 88 90 91 84])) (zC 84 (zS [dD 92,Ga 93 2,yK 97 5 2 156 96,nD 99 92,zJc 98 96 100 98] (zS [yM 101 3 4,OH 73 0 102 1 103 0 103,au 4 103] .ret)) (zQ (.join [⟨104,[.b],false⟩] 2575866019663762143841300913324032 none (zR [bR 105 3 1,xm 107 106 2,Cc 108 107 6 3,nG 108 109 110 104])) (zC 104 (zS [dD 111,Ga 112 2,yK 116 5 2 158 115,nD 118 111,zJc 117 115 119 117] (zS [yM 120 3 4,OH 73 0 121 1 122 0 122,au 4 122] .ret)) .skip)))))))))) (zS [yM 123 3 4,[⟨false,[],[],.call 2 73 [.t 0,.t 124,kO 2] (.mp 0),[125,0,12,19,22,27,30,56,59,64,67],(some 125),none⟩],au 4 125] .ret)))))
def Qk:aM:=⟨[.mp pq,.rd true [.d,.d,.d,.d]],(.one false [.d])⟩
def Ql:aL:=aG [(190,afd),(155,CZ),(136,uT),(156,Au),(73,uE),(158,zP)]
def EG (n:Nat):eO × qP->Option ((Int) × Int × List Int × List aR × List (List Int) × List Int × Int × Int × Int × Int × Int × Int × Int × List aR × Int × List vD):=aI n Ql Qj [bE,fV] [.i .i64] bE [4] (.mp 0)
def EH:=EG BIG
def Qm:TSp:=⟨Qk,[bE,fV],[.i .i64],bE,Ou.j (.mp 0),EH⟩
theorem aiV:zK Ql 137 Qk Qj 126 (.mp 0) [4]:=by show _=_;kernel_rfl
theorem af8:Qm.Ok PG 137:=aQ (af aqE (af IP (af zN (af EF (af xR (af GN (az PG))))))) aiV (by kernel_rfl)
theorem aiW (n) (a0) (a1):EG n (a0,a1) = (Qi a1).bind fun r0=> (xS (a0.2.2.1,r0.1)).bind fun r1=> ((bnd a0.2.1.length r0.1.1 fun n2=> a0.2.1[n2]?.bind fun y3=> bnd a0.2.1.length r0.1.2 fun n4=> a0.2.1[n4]?.bind fun y5=> bif decide (y3=y5) then some (decide (a1.2.1=1)) else some false).bind fun x6=> bif x6 then bnd a0.2.1.length r0.1.1 fun n7=> a0.2.1[n7]?.bind fun y8=> (lK (a0,a1,y8,((0:Int),(1:Int),[r0.1],(0:Int)))).bind fun r9=> some (Sum.inr (r9.1,r9.2)) else bnd a0.2.1.length r0.1.1 fun n10=> a0.2.1[n10]?.bind fun y11=> bnd a0.2.1.length r0.1.2 fun n12=> a0.2.1[n12]?.bind fun y13=> bif decide (y11=y13) then bnd a0.2.1.length r0.1.1 fun n14=> a0.2.1[n14]?.bind fun y15=> (lK (a0,a1,y15,((0:Int),(2:Int),[r0.1],(0:Int)))).bind fun r16=> some (Sum.inr (r16.1,r16.2)) else (bif decide (a1.2.1=1) then some !r1.1 else some false).bind fun x17=> bif x17 then (uF (a0.2.2.1,r0.1)).bind fun r18=> (iq ((a0.1,a0.2.1,r18.1,a0.2.2.2),a1,(1:Int))).bind fun r19=> some (Sum.inr (r19.1,r19.2)) else (bif decide (a1.2.1=2) then some r1.1 else some false).bind fun x20=> bif x20 then (tQ (a0.2.2.1,r0.1)).bind fun r21=> (iq ((a0.1,a0.2.1,r21.1,a0.2.2.2),a1,(1:Int))).bind fun r22=> some (Sum.inr (r22.1,r22.2)) else some (Sum.inl a0)).bind fun y=>match y with | .inl x23=> (iq (x23,a1,(2:Int))).bind fun r24=> some (r24.1,r24.2) | .inr x23=> some (x23.1,x23.2):=by kernel_rfl
def Qn:TC:=
 (zS [dN 3 1,bO 4] (zQ (.join [⟨0,bE,false⟩] 618970019642690137449562097 (some [⟨4,[.i .i64],false⟩,⟨0,bE,false⟩]) (.block 0 (zS [dD 8,su 9 8,zJd 10 0 9 15,yK 11 3 4 134 10,au 7 12] (zC 7 (zS [yM 13 3 4,zJe 14 3 15 10 15,au 4 15] .ret) (zS [bR 17 3 1,yN 19 18 3 16] (zC 16 (zS [dD 21,dD 25,dD 29,TF 22 21 0 0,Bb 26 25 3,Bb 30 29 2,D9 33 135 24 28 32,Ea 33 20 33 1 1,dK 34 5 34,au 6 35] (zS [dD 36,gp 38 5,gp 43 5,dP 37 3 4,OO 39 3 2 38 5 1,OO 44 3 3 43 5 1,pE 48 42 47,gI 49 74 48,[⟨false,[],[],.call 2 73 [.t 0,.t 37,.t 49] (.mp 0),[50,0,10,28,32],(some 50),none⟩],au 4 50] .ret)) (zQ (.join [⟨51,[.b],false⟩] 295145653379539140608 none (zR [bR 52 3 1,xm 54 53 4,au 55 54,[o2 56 (.p0) 3 true],zJf 57 56 3,JF 58 57 3,zJg 59 0 58 1,wh 60 3 3 2 3,rA 62 59 61 3,[o2 63 (.load 0 [(1,1)] 0 (.t 62) 1 false) 3 true],wh 64 3 3 3 3,D7 66 63 65 3,nG 55 66 67 51])) (zC 51 (zS [yM 68 3 4,zJe 69 2 70 10 70,au 4 70] .ret) (zS [bR 72 3 1,yN 74 73 4 71] (zC 71 (zS [dD 75,dD 77,zGu 1000000002 4 76 76,zMk 1000000002 77 78 78 0 1,zMh 1000000002 81 81 3 2 80,zGy 1000000002 0 1 1 83 84 84,bR 85 3 2,zGz 86 87,[⟨false,[],[],.call 3 136 [.t 0,.t 76,.t 84,.t 87] (.mp 0),[88,0,87,10,83,80],(some 88),none⟩],au 4 88] .ret) .skip)))))))))) (zS [yM 89 3 4,[⟨false,[],[],.call 2 137 [.t 0,.t 90] (.mp 0),[91,0,10],(some 91),none⟩],au 4 91] .ret)))
def Qo:aM:=⟨[.mp pq,.rd true [.d,.d,.d,.d]],(.one false [.d])⟩
def Qp:aL:=aG [(134,Qc),(73,uE),(135,J5),(74,Xj),(136,uT),(137,Qm)]
def EJ (n:Nat):eO × qP->Option ((Int) × Int × List Int × List aR × List (List Int) × List Int × Int × Int × Int × Int × Int × Int × Int × List aR × Int × List vD):=aI n Qp Qn [bE,fV] [.i .i64] bE [4] (.mp 0)
def EL:=EJ BIG
def Qq:TSp:=⟨Qo,[bE,fV],[.i .i64],bE,Ou.j (.mp 0),EL⟩
theorem aiX:zK Qp 50 Qo Qn 92 (.mp 0) [4]:=by show _=_;kernel_rfl
theorem af9:Qq.Ok PG 50:=aQ (af aas (af xR (af aaw (af ae_ (af zN (af af8 (az PG))))))) aiX (by kernel_rfl)
theorem aiY (n) (a0) (a1):EJ n (a0,a1) = ((GL (a0,a1)).bind fun r0=> bif r0.1 then (iq (a0,a1,(3:Int))).bind fun r1=> some (Sum.inr (r1.1,r1.2)) else bif decide (a1.2.1=3) then (zM (a0.1,a0.2.2.2.1,a0.2.2.1)).bind fun r2=> bnd r2.1.1.length a1.2.2.1 fun n3=> r2.1.1[n3]?.bind fun y4=> bnd r2.1.1.length a1.2.2.2 fun n5=> r2.1.1[n5]?.bind fun y6=> (L8 (decide (y4=y6))).bind fun r7=> (iq (a0,a1,r7.1)).bind fun r8=> some (Sum.inr (r8.1,r8.2)) else (bif decide (a1.2.1=4) then bnd a0.2.1.length a1.2.2.1 fun n9=> a0.2.1[n9]?.bind fun y10=> some (decide (y10=a1.2.2.2)) else some false).bind fun x11=> bif x11 then (iq (a0,a1,(2:Int))).bind fun r12=> some (Sum.inr (r12.1,r12.2)) else bif decide (a1.2.1=4) then bnd a0.2.1.length a1.2.2.1 fun n13=> a0.2.1[n13]?.bind fun y14=> (lK (a0,a1,y14,((0:Int),(3:Int),[],a1.2.2.1))).bind fun r15=> some (Sum.inr (r15.1,r15.2)) else some (Sum.inl a0):Option ((eO) ⊕ Zt0)).bind fun y=>match y with | .inl x16=> (EH (x16,a1)).bind fun r17=> some (r17.1,r17.2) | .inr x16=> some (x16.1,x16.2):=by kernel_rfl
def anT:TC:=
 (zS [dN 2 0,dN 3 1,qi 4 1000000005,bO 5] (zS [dP 8 2 15,gI 9 47 8,qi 6 1000000007,iY 6 9 6 9] (zQ (.seq (.join [⟨36,[.b],false⟩] 137438952448 none (zR [dP 10 2 15,gI 11 12 10,Na 12 11 3 3 0 3,YS 48 15 100000 16 16 3 3 13,Ba 20 9 2 14 9,Ba 22 9 3 0 9,yH 49 21 23 24 24 9,zGq 25 24 0 9,ru 19 25 26,au 27 26,D8 28 2 15 17,Tq 13 28 29 29 17,ru 27 29 30,au 31 30,zLB 32 21 2 14,zGq 35 34 80 21,ru 31 35 36])) (zC 36 (zS [xu 37 6 15 4 4 6,bO 5] .ret) .skip)) (zS [dP 38 3 4,zGB 50 6 38 39 6 39,au 7 39] (zS [iZ 40 6 15,au 41 7,DZ 40 4 40 4 40 40 6,au 5 41] .ret)))))
def anU:aM:=⟨[.rd true pq,.rd true [.d,.d,.d,.d]],(.tup [(true,15),(false,1)] Ct0)⟩
def anV:aL:=aG [(47,IJ),(12,GM),(48,lm),(49,GK),(13,acG),(50,Qq)]
def acL (n:Nat):eO × qP->Option (Zt2 × Unit):=aI n anV anT [bE,fV] Ty0 [] [4,5] .no
def Dq:=acL BIG
def anW:TSp:=⟨anU,[bE,fV],Ty0,[],Ou.j .no,Dq⟩
theorem azV:zK anV 10 anU anT 42 .no [4,5]:=by show _=_;kernel_rfl
theorem awF:anW.Ok PG 10:=aQ (af PY (af LZ (af jW (af LW (af aiQ (af af9 (az PG))))))) azV (by kernel_rfl)
theorem azW (n) (a0) (a1):acL n (a0,a1) = (Ap a0).bind fun r0=> ((wz a0).bind fun r1=> bif !r1.1 then some true else (fw (a1.1,(1:Int),(100000:Int))).bind fun r2=> bif !r2.1 then some true else (Bl (a0.2.2.2.2.2.2.2.2.2.2.2.2.2.2,a1.1)).bind fun r3=> bif decide (0<=r3.1) then some true else (SA a0).bind fun r4=> bif r4.1 then some true else some (decide (80<=(a0.2.2.2.2.2.2.2.2.2.2.2.2.2.2.length:Int)))).bind fun x5=> bif x5 then some ((r0.1.1,r0.1.2.1,r0.1.2.2.1,r0.1.2.2.2.1,r0.1.2.2.2.2.1,r0.1.2.2.2.2.2.1,r0.1.2.2.2.2.2.2.1,r0.1.2.2.2.2.2.2.2.1,r0.1.2.2.2.2.2.2.2.2.1,r0.1.2.2.2.2.2.2.2.2.2.1,r0.1.2.2.2.2.2.2.2.2.2.2.1,r0.1.2.2.2.2.2.2.2.2.2.2.2.1,r0.1.2.2.2.2.2.2.2.2.2.2.2.2.1,r0.1.2.2.2.2.2.2.2.2.2.2.2.2.2.1,r0.1.2.2.2.2.2.2.2.2.2.2.2.2.2.2,(0:Int)),()) else (EL (r0.1,a1)).bind fun r6=> some ((r6.2.1,r6.2.2.1,r6.2.2.2.1,r6.2.2.2.2.1,r6.2.2.2.2.2.1,r6.2.2.2.2.2.2.1,r6.2.2.2.2.2.2.2.1,r6.2.2.2.2.2.2.2.2.1,r6.2.2.2.2.2.2.2.2.2.1,r6.2.2.2.2.2.2.2.2.2.2.1,r6.2.2.2.2.2.2.2.2.2.2.2.1,r6.2.2.2.2.2.2.2.2.2.2.2.2.1,r6.2.2.2.2.2.2.2.2.2.2.2.2.2.1,r6.2.2.2.2.2.2.2.2.2.2.2.2.2.2.1,r6.2.2.2.2.2.2.2.2.2.2.2.2.2.2.2,r6.1),()):=by kernel_rfl
def U2:TC:=
 (zS [kX 3 1] (zQ (.join [⟨4,[.b],false⟩] 16777200 none (zR [au 5 0,pz 6 48 5 12,au 7 6,ry 8 2,B_ 9 3 0 8 2,zEB 48 9 10 10 2,lN 7 10 11,iJ 13 0 7,wh 14 7 3 2 7,qj 144 13 15 16 16 7,lN 12 16 17,iJ 19 0 13,A_ 20 13 3 3,qj 59 19 21 22 22 13,nG 18 22 23 4])) .ret))
def U3:aM:=⟨[.rd false [.d],.rd true M0],(.one false [.d])⟩
def U4:aL:=aG [(48,lm),(144,xQ),(59,IL)]
def IR (n:Nat):Int × oV->Option ((Bool) × Unit):=aI n U4 U2 [[.i .i64],iL] [.b] [] [4] .no
def Av:=IR BIG
def IU:TSp:=⟨U3,[[.i .i64],iL],[.b],[],Ou.j .no,Av⟩
theorem alQ:zK U4 71 U3 U2 24 .no [4]:=by show _=_;kernel_rfl
theorem Qr:IU.Ok PG 71:=aQ (af jW (af Ar (af PZ (az PG)))) alQ (by kernel_rfl)
theorem alR (n) (a0) (a1):IR n (a0,a1) = ((fw (a0,(1:Int),(12:Int))).bind fun r0=> bif r0.1 then (fw (a1.1,(1:Int),(100000:Int))).bind fun r1=> bif r1.1 then (tO (a0,a1.2.2.1)).bind fun r2=> bif r2.1 then (Aq (a0,a1.2.2.2)).bind fun r3=> some r3.1 else some false else some false else some false).bind fun x4=> some (x4,()):=by kernel_rfl
def anX:TC:=
 (zS [bB 6] (zQ (.join [⟨6,[.b],false⟩] 1048512 none (zR [dz 7 1 0,mr 9 8,yI 10 9,YK 11 48 7 10,Cc 12 11 0 5,iJ 14 1 5,rA 15 13 14 5,Ca 16 13 1 15 5,iJ 17 2 5,D7 18 16 17 5,nG 12 18 19 6])) .ret))
def anY:aM:=⟨[.rd false fG,.rd false [.d],.rd false [.d]],(.one false [.d])⟩
def anZ:aL:=aG [(48,lm)]
def acM (n:Nat):List Int × Int × Int->Option ((Bool) × Unit):=aI n anZ anX [[.sl [.i .i64]],[.i .i64],[.i .i64]] [.b] [] [6] .no
def SB:=acM BIG
def an0:TSp:=⟨anY,[[.sl [.i .i64]],[.i .i64],[.i .i64]],[.b],[],Ou.j .no,SB⟩
theorem azX:zK anZ 200 anY anX 20 .no [6]:=by show _=_;kernel_rfl
theorem awG:an0.Ok PG 200:=aQ (af jW (az PG)) azX (by kernel_rfl)
theorem azY (n) (a0) (a1) (a2):acM n (a0,a1,a2) = ((fw (a1,(0:Int),IntKind.wrap .i64 ((a0.length:Int)-1))).bind fun r0=> bif r0.1 then bnd a0.length a1 fun n1=> a0[n1]?.bind fun y2=> some (decide (y2=a2)) else some false).bind fun x3=> some (x3,()):=by kernel_rfl
def afe:TC:=
 (zS [A9 6] (zS [A9 7] (zQ (.join [⟨7,[.sl [.i .i64,.i .i64]],false⟩] 8589934208 none (zS [M7 10 1] (.block 0 (.loop [⟨7,[.sl [.i .i64,.i .i64]],false⟩,⟨12,[.i .i64],false⟩] 8589931136 (zS [gH 13 12 11] (zQ (zC 13 .skip (.exit 0)) (zQ (.join [⟨7,[.sl [.i .i64,.i .i64]],false⟩] 4294951552 none (.block 1 (zS [kW 14 10 12 2 2,rC 9 1000000010,eB 9 9 15] (zQ (.join [⟨27,[.b],false⟩] 268369920 none (zR [Tw 16 0 9 0,au 19 2,D9 20 200 16 18 19,Cc 21 20 0 5,wh 23 5 9 1 5,iJ 25 2 5,[⟨false,[],[],.call 1 200 [.t 22,.t 24,.t 25] .no,[26],(some 26),some (5,true)⟩],pu 21 26 27])) (zC 27 (zR [dK 7 28 7,dP 29 9 2,JL 30 29 28 28 7]) .skip))))) (zR [mV 32 12])))))))) (zS [t_ 7 33 7 6] .ret))))
def aff:aM:=⟨[.rd false fG,.rd false iM,.rd false [.d]],(.one false iM)⟩
def afg:aL:=aG [(200,an0)]
def Qs (n:Nat):List Int × (List aR) × Int->Option ((List aR) × Unit):=aI n afg afe [[.sl [.i .i64]],[.sl [.i .i64,.i .i64]],[.i .i64]] [.sl [.i .i64,.i .i64]] [] [6] .no
def Qt:=Qs BIG
def afh:TSp:=⟨aff,[[.sl [.i .i64]],[.sl [.i .i64,.i .i64]],[.i .i64]],[.sl [.i .i64,.i .i64]],[],Ou.j .no,Qt⟩
theorem auf:zK afg 157 aff afe 34 .no [6]:=by show _=_;kernel_rfl
theorem aqH:afh.Ok PG 157:=aQ (af awG (az PG)) auf (by kernel_rfl)
theorem aug (n) (a0) (a1) (a2):Qs n (a0,a1,a2) = (aK n (X:=(List aR) × Int) (B:=(List aR)) (fun self1 x0=> bif decide (x0.2<(a1.length:Int)) then (bnd a1.length x0.2 fun n2=> a1[n2]?.bind fun y3=> ((SB (a0,y3.1,a2)).bind fun r4=> bif r4.1 then (SB (a0,y3.2,a2)).bind fun r5=> some r5.1 else some false).bind fun x6=> bif x6 then bif decide (x0.1.length+[y3].length<=4294967296) then some (x0.1++[y3]) else none else some x0.1:Option ((List aR))).bind fun x7=> self1 (x7,IntKind.wrap .i64 (x0.2+1)) else some x0.1) ([],(0:Int))).bind fun x8=> some (x8,()):=by kernel_rfl
def EM:TC:=
 (zS [dN 4 1,bO 6] (zQ (.join [⟨0,bE,false⟩] 1073725761 (some [⟨6,[.i .i64],false⟩,⟨0,bE,false⟩]) (zS [M7 14 2] (.block 0 (.loop [⟨0,bE,false⟩,⟨16,[.i .i64],false⟩] 1073676609 (zS [gH 17 16 15] (zQ (zC 17 .skip (.exit 0)) (zQ (.block 1 (zS [kW 18 14 16 2 2,rC 8 1000000009,eB 8 8 19] (zS [Ga 20 2,yK 24 8 2 155 23] (zC 25 (zS [yM 26 4 4,zJe 27 3 28 23 28,au 6 28] .ret) .skip)))) (zR [mV 29 16])))))))) (zQ (.seq (.join [⟨49,[.b],false⟩] 1125898833100800 none (zR [dD 32,bR 30 4 2,TF 33 32 0 0,yI 36 35,YK 37 48 31 36,Na 38 37 9 4 3 9,[o2 42 (.p0) 9 false],zJh 43 42 9,xq 44 43 9,M4 45 0 3 44 9,JG 46 45 9,zEs 48 41 1 46 47 47 9,tZ 48 47 9 39])) (zC 49 (zS [yM 50 4 4,OH 73 0 51 3 52 0 52,au 6 52] .ret) .skip)) (zQ (.join [⟨0,bE,false⟩] 590286803159450911745 none (zS [M7 53 2] (.block 2 (.loop [⟨0,bE,false⟩,⟨55,[.i .i64],false⟩] 590259781561686688769 (zS [gH 56 55 54] (zQ (zC 56 .skip (.exit 2)) (zQ (.block 3 (zS [kW 57 53 55 2 2,rC 10 1000000011,eB 10 10 58] (zR [dD 59,Ga 60 2,yK 64 10 2 156 63,nD 66 59,zBu 0 65 63 0 2 67 65]))) (zR [mV 68 55])))))))) (zS [Ga 69 1,pG 73 4 2 4 3,xg 77 72 74,zBg 0 72 0 1 1 0 77 76] (zS [dD 78,dD 82,Bb 79 78 1,Bb 83 82 2,bR 86 4 3,D9 88 157 81 85 87,dK 88 11 88] (zQ (zS [gp 89 11,mr 90 89,xm 91 90 0] (zC 91 (zS [yM 92 4 4,[⟨false,[],[],.call 2 73 [.t 0,.t 93,kO 1] (.mp 0),[94,0,77,81,85],(some 94),none⟩],au 6 94] .ret) .skip)) (zQ (.join [⟨0,bE,false⟩] 2596108815186156682096451392643073 none (zS [gp 95 11,sw 96 95] (.block 4 (.loop [⟨0,bE,false⟩,⟨97,[.i .i64],false⟩] 2595990014196978879939281663565825 (zS [gH 98 97 96] (zQ (zC 98 .skip (.exit 4)) (zQ (.block 5 (zS [OJ 99 95 97 11 2 2,rC 13 1000000014,eB 13 13 100] (zR [dD 101,Ga 102 2,yK 106 13 2 158 105,nD 108 101,zBu 0 107 105 0 2 109 107]))) (zR [mV 110 97])))))))) (zS [yM 111 4 4,bR 113 4 3,zIq 11 115 11 89 95 115,zIr 4 115 116 115 116,zGA 136 0 112 114 116 117 0 116 117,au 6 117] .ret)))))))))
def EN:aM:=⟨[.mp pq,.rd true [.d,.d,.d,.d],.rd false iM],(.one false [.d])⟩
def EO:aL:=aG [(155,CZ),(73,uE),(48,lm),(156,Au),(157,afh),(158,zP),(136,uT)]
def vK (n:Nat):eO × qP × (List aR)->Option ((Int) × Int × List Int × List aR × List (List Int) × List Int × Int × Int × Int × Int × Int × Int × Int × List aR × Int × List vD):=aI n EO EM [bE,fV,[.sl [.i .i64,.i .i64]]] [.i .i64] bE [6] (.mp 0)
def vL:=vK BIG
def EP:TSp:=⟨EN,[bE,fV,[.sl [.i .i64,.i .i64]]],[.i .i64],bE,Ou.j (.mp 0),vL⟩
theorem Xk:zK EO 75 EN EM 118 (.mp 0) [6]:=by show _=_;kernel_rfl
theorem Tc:EP.Ok PG 75:=aQ (af IP (af xR (af jW (af EF (af aqH (af GN (af zN (az PG)))))))) Xk (by kernel_rfl)
theorem Xl (n) (a0) (a1) (a2):vK n (a0,a1,a2) = (aK n (X:=eO × Int) (B:=(eO) ⊕ Zt0) (fun self1 x0=> bif decide (x0.2<(a2.length:Int)) then bnd a2.length x0.2 fun n2=> a2[n2]?.bind fun y3=> (xS (x0.1.2.2.1,y3)).bind fun r4=> bif r4.1 then (iq (x0.1,a1,(3:Int))).bind fun r5=> some (Sum.inr (r5.1,r5.2)) else self1 (x0.1,IntKind.wrap .i64 (x0.2+1)) else some (Sum.inl x0.1)) (a0,(0:Int))).bind fun y=>match y with | .inl x6=> ((fw (a1.2.2.1,(0:Int),IntKind.wrap .i64 (x6.1-1))).bind fun r7=> bif !r7.1 then some true else (fw (a1.2.2.2,(1:Int),(x6.2.2.2.1.length:Int))).bind fun r8=> some !r8.1).bind fun x9=> bif x9 then (iq (x6,a1,(3:Int))).bind fun r10=> some (r10.1,r10.2) else (aK n (X:=eO × Int) (B:=eO) (fun self12 x11=> bif decide (x11.2<(a2.length:Int)) then bnd a2.length x11.2 fun n13=> a2[n13]?.bind fun y14=> (uF (x11.1.2.2.1,y14)).bind fun r15=> self12 ((x11.1.1,x11.1.2.1,r15.1,x11.1.2.2.2),IntKind.wrap .i64 (x11.2+1)) else some x11.1) (x6,(0:Int))).bind fun x16=> bnd x16.2.1.length a1.2.2.1 fun n17=> x16.2.1[n17]?.bind fun y18=> (Qt (x16.2.1.set n17 a1.2.2.2,x16.2.2.1,a1.2.2.2)).bind fun r19=> bif decide ((r19.1.length:Int)=0) then (iq ((x16.1,x16.2.1.set n17 a1.2.2.2,x16.2.2),a1,(1:Int))).bind fun r20=> some (r20.1,r20.2) else (aK n (X:=eO × Int) (B:=eO) (fun self22 x21=> bif decide (x21.2<(r19.1.length:Int)) then bnd r19.1.length x21.2 fun n23=> r19.1[n23]?.bind fun y24=> (tQ (x21.1.2.2.1,y24)).bind fun r25=> self22 ((x21.1.1,x21.1.2.1,r25.1,x21.1.2.2.2),IntKind.wrap .i64 (x21.2+1)) else some x21.1) ((x16.1,x16.2.1.set n17 a1.2.2.2,x16.2.2),(0:Int))).bind fun x26=> (lK (x26,a1,a1.2.2.2,((0:Int),(4:Int),r19.1,(0:Int)))).bind fun r27=> some (r27.1,r27.2) | .inr x6=> some (x6.1,x6.2):=by kernel_rfl
def an1:TC:=
 (zS [dN 3 0,dN 5 2,qi 6 1000000007,bO 7] (zS [Bc 11 3 15 47,qi 8 1000000009,iY 8 12 8 12] (zQ (.seq (.join [⟨43,[.b],false⟩] 17592186036224 none (zR [Bc 13 3 15 12,Na 15 14 3 3 0 3,TD 19 5 4 3 71 18 3,D_ 21 20 3 16,D8 24 3 15 10,Tq 13 24 25 25 10,D_ 26 25 10 23,jN 29 1 15,n_ 30 15,xq 31 30 15,F9 32 3 9 31 15,JJ 33 29 32 15 28,au 35 34,JH 36 22 5 0,n_ 38 22,xq 39 38 22,xq 40 39 22,F9 41 3 10 40 22,JJ 42 37 41 22 35])) (zC 43 (zS [xu 44 8 15 6 6 8,bO 7] .ret) .skip)) (zS [jy 45,[o1 46 (.load 8 [] 5 (.t 45) 9 true)],zEw 9 1000000010,DZ 46 9 46 9 46 46 8] (zS [zGe 47,jy 48,zGf 8 47 8 5 48 47] (zS [uA 49 8 4,au 51 1,yI 52 51,bR 53 5 0,xg 55 50 52,zBg 8 50 8 4 1 0 55 54] (zS [au 58 1,uA 56 8 3,yI 59 58,bR 60 5 3,gI 62 72 61,xg 63 57 59,[o4 2 [8,62,45,48,49,55,63,57,56] (.store 8 [(3,1)] 0 (.t 63) (.t 62))]] (zS [bO 10] (zQ (.join [⟨8,bE,false⟩,⟨10,[.i .i64],false⟩] 309484991374600995015230720 none (.block 0 (zS [YQ 68 9 1,zDi 71 70 4,au 67 71] (zC 67 (zR [Gc 72 9 0 4,bR 74 5 1,gI 76 74 75,zGt 73 8 73 76 77 8 77,au 10 77]) (zS [YQ 79 9 6,yN 82 81 3 78] (zC 78 (zR [Gc 83 9 0 4,bR 85 5 2,zGt 75 8 84 86 87 8 87,au 10 87]) (zR [Gc 64 9 0 4,OH 73 8 65 1 66 8 66,au 10 66]))))))) (zS [iZ 88 8 15,au 89 10,DZ 88 6 88 6 88 88 8,au 7 89] .ret))))))))))
def an2:aM:=⟨[.rd true pq,.rd false [.d],.rd true M0],(.tup [(true,15),(false,1)] Ct0)⟩
def an3:aL:=aG [(47,IJ),(12,GM),(71,IU),(13,acG),(72,Ao),(74,Xj),(73,uE),(75,EP)]
def acN (n:Nat):eO × Int × oV->Option (Zt2 × Unit):=aI n an3 an1 [bE,[.i .i64],iL] Ty0 [] [6,7] .no
def Dr:=acN BIG
def an4:TSp:=⟨an2,[bE,[.i .i64],iL],Ty0,[],Ou.j .no,Dr⟩
theorem azZ:zK an3 15 an2 an1 90 .no [6,7]:=by show _=_;kernel_rfl
theorem awH:an4.Ok PG 15:=aQ (af PY (af LZ (af Qr (af aiQ (af EC (af ae_ (af xR (af Tc (az PG))))))))) azZ (by kernel_rfl)
theorem az0 (n) (a0) (a1) (a2):acN n (a0,a1,a2) = (Ap a0).bind fun r0=> ((wz a0).bind fun r1=> bif !r1.1 then some true else (Av (a0.1,a2)).bind fun r2=> bif !r2.1 then some true else (SA a0).bind fun r3=> bif !r3.1 then some true else bif !decide (a1=a0.2.2.2.2.2.2.2.2.2.1) then some true else some (!decide (a2.1=a0.2.2.2.2.2.2.2.2.2.2.1))).bind fun x4=> bif x4 then some ((r0.1.1,r0.1.2.1,r0.1.2.2.1,r0.1.2.2.2.1,r0.1.2.2.2.2.1,r0.1.2.2.2.2.2.1,r0.1.2.2.2.2.2.2.1,r0.1.2.2.2.2.2.2.2.1,r0.1.2.2.2.2.2.2.2.2.1,r0.1.2.2.2.2.2.2.2.2.2.1,r0.1.2.2.2.2.2.2.2.2.2.2.1,r0.1.2.2.2.2.2.2.2.2.2.2.2.1,r0.1.2.2.2.2.2.2.2.2.2.2.2.2.1,r0.1.2.2.2.2.2.2.2.2.2.2.2.2.2.1,r0.1.2.2.2.2.2.2.2.2.2.2.2.2.2.2,(0:Int)),()) else bnd r0.1.2.2.2.2.1.length (IntKind.wrap .i64 (a1-1)) fun n5=> r0.1.2.2.2.2.1[n5]?.bind fun y6=> (mF a2.2.2.2).bind fun r7=> bnd r0.1.2.2.2.1.length (IntKind.wrap .i64 (a1-1)) fun n8=> r0.1.2.2.2.1[n8]?.bind fun y9=> (bif !decide (r0.1.2.2.2.2.2.2.1=4) then (L8 a2.2.1).bind fun r10=> (iq ((r0.1.1,r0.1.2.1,r0.1.2.2.1,r0.1.2.2.2.1.set n8 r7.1,r0.1.2.2.2.2.1.set n5 a2.1,(0:Int),(0:Int),(0:Int),(0:Int),(0:Int),(0:Int),(0:Int),[],(0:Int),r0.1.2.2.2.2.2.2.2.2.2.2.2.2.2.2),(r0.1.2.2.2.2.2.1,r0.1.2.2.2.2.2.2.1,r0.1.2.2.2.2.2.2.2.1,r0.1.2.2.2.2.2.2.2.2.1),r10.1)).bind fun r11=> some (r11.2,r11.1) else bif decide (r0.1.2.2.2.2.2.2.2.2.2.2.2.1=3) then (vL ((r0.1.1,r0.1.2.1,r0.1.2.2.1,r0.1.2.2.2.1.set n8 r7.1,r0.1.2.2.2.2.1.set n5 a2.1,(0:Int),(0:Int),(0:Int),(0:Int),(0:Int),(0:Int),(0:Int),[],(0:Int),r0.1.2.2.2.2.2.2.2.2.2.2.2.2.2.2),(r0.1.2.2.2.2.2.1,r0.1.2.2.2.2.2.2.1,r0.1.2.2.2.2.2.2.2.1,r0.1.2.2.2.2.2.2.2.2.1),a2.2.2.1)).bind fun r12=> some (r12.2,r12.1) else (iq ((r0.1.1,r0.1.2.1,r0.1.2.2.1,r0.1.2.2.2.1.set n8 r7.1,r0.1.2.2.2.2.1.set n5 a2.1,(0:Int),(0:Int),(0:Int),(0:Int),(0:Int),(0:Int),(0:Int),[],(0:Int),r0.1.2.2.2.2.2.2.2.2.2.2.2.2.2.2),(r0.1.2.2.2.2.2.1,r0.1.2.2.2.2.2.2.1,r0.1.2.2.2.2.2.2.2.1,r0.1.2.2.2.2.2.2.2.2.1),(1:Int))).bind fun r13=> some (r13.2,r13.1):Option (eO × Int)).bind fun x14=> some ((x14.1.1,x14.1.2.1,x14.1.2.2.1,x14.1.2.2.2.1,x14.1.2.2.2.2.1,x14.1.2.2.2.2.2.1,x14.1.2.2.2.2.2.2.1,x14.1.2.2.2.2.2.2.2.1,x14.1.2.2.2.2.2.2.2.2.1,x14.1.2.2.2.2.2.2.2.2.2.1,x14.1.2.2.2.2.2.2.2.2.2.2.1,x14.1.2.2.2.2.2.2.2.2.2.2.2.1,x14.1.2.2.2.2.2.2.2.2.2.2.2.2.1,x14.1.2.2.2.2.2.2.2.2.2.2.2.2.2.1,x14.1.2.2.2.2.2.2.2.2.2.2.2.2.2.2,x14.2),()):=by kernel_rfl
def U5:TC:=
 (zS [qi 6 1000000007,bB 7] (zS [dz 15 0 1,zMx 17 109 15 16 14,zDc 14 15 18 14,xh 19 14 15,qi 8 1000000009,pF 8 18 8 18] (zQ (zS [au 20 9,jT 21 20] (zC 21 (zS [zBp 22,Ce 6 22 6 22] .ret) .skip)) (zQ (.join [⟨8,bE,false⟩,⟨6,bE,false⟩] 144115188067482048 (some [⟨6,bE,false⟩,⟨7,[.b],false⟩]) (zS [M7 23 2] (.block 0 (.loop [⟨8,bE,false⟩,⟨6,bE,false⟩,⟨25,[.i .i64],false⟩] 144115188042316224 (zS [gH 26 25 24] (zQ (zC 26 .skip (.exit 0)) (zQ (.join [⟨8,bE,false⟩,⟨6,bE,false⟩] 72057593903724992 (some [⟨6,bE,false⟩,⟨7,[.b],false⟩]) (.block 1 (zS [kW 27 23 25 14 14,zJj,eB 11 11 28] (zS [bO 12] (zS [iZ 29 8 15,qi 13 1000000014,zJk 29 13 29 13 29] (zQ (.join [⟨13,bE,false⟩,⟨12,[.i .i64],false⟩] 4503598553640960 none (zS [bR 30 11 0] (.block 2 (zS [TH 33 31 1] (zC 32 (zR [dP 35 8 15,Gc 36 11 1 4,jO 38 10 35 37,Ty 38 34 38 15,iY 13 39 13 39,au 12 40]) (zS [yN 42 31 2 41] (zC 41 (zR [dP 44 8 15,bR 45 11 5,Gc 47 11 6 4,D9 49 15 44 46 48,Ty 49 43 49 15,iY 13 50 13 50,au 12 51]) .skip))))))) (zQ (zS [au 52 12,xm 53 52 0] (zC 53 (zS [zBp 54,Ce 6 54 6 54] .ret) .skip)) (zR [iZ 55 13 15,DZ 55 8 55 8 55 55 13])))))))) (zR [mV 56 25])))))))) (zS [iZ 57 8 15,zJk 57 6 57 6 57,ic 7] .ret)))))
def U6:aM:=⟨[.rd false [.d],.rd false [.d],.rd false Ct2],(.tup [(true,15),(false,1)] Ct0)⟩
def U7:aL:=aG [(109,aao),(10,anW),(15,an4)]
def IV (n:Nat):Int × Int × (List Zt7)->Option (Zt1 × Unit):=aI n U7 U5 [[.i .i64],[.i .i64],yE] Ty1 [] [6,7] .no
def Aw:=IV BIG
def U8:TSp:=⟨U6,[[.i .i64],[.i .i64],yE],Ty1,[],Ou.j .no,Aw⟩
theorem alS:zK U7 30 U6 U5 58 .no [6,7]:=by show _=_;kernel_rfl
theorem aiZ:U8.Ok PG 30:=aQ (af alE (af awF (af awH (az PG)))) alS (by kernel_rfl)
theorem alT (n) (a0) (a1) (a2):IV n (a0,a1,a2) =
 (CX (a0,a1)).bind fun r0=>
 bif !r0.1.2.2.2.2.2.2.2.2.2.2.2.2.2.2.2 then
  some (((0:Int),[],[],[],[],(0:Int),(0:Int),(0:Int),(0:Int),(0:Int),(0:Int),(0:Int),[],(0:Int),[],false),())
 else (aK n (X:=eO × eO × Int) (B:=(eO × eO) ⊕ (eO × Bool)) (fun self2 x1=>
  bif decide (x1.2.2<(a2.length:Int)) then
   (bnd a2.length x1.2.2 fun n3=>
    a2[n3]?.bind fun y4=>
    (bif decide (y4.1=1) then
     (Dq (x1.1,(y4.2.1,y4.2.2.1,y4.2.2.2.1,y4.2.2.2.2.1))).bind fun r5=>
     some ((r5.1.1,r5.1.2.1,r5.1.2.2.1,r5.1.2.2.2.1,r5.1.2.2.2.2.1,r5.1.2.2.2.2.2.1,r5.1.2.2.2.2.2.2.1,r5.1.2.2.2.2.2.2.2.1,r5.1.2.2.2.2.2.2.2.2.1,r5.1.2.2.2.2.2.2.2.2.2.1,r5.1.2.2.2.2.2.2.2.2.2.2.1,r5.1.2.2.2.2.2.2.2.2.2.2.2.1,r5.1.2.2.2.2.2.2.2.2.2.2.2.2.1,r5.1.2.2.2.2.2.2.2.2.2.2.2.2.2.1,r5.1.2.2.2.2.2.2.2.2.2.2.2.2.2.2.1),r5.1.2.2.2.2.2.2.2.2.2.2.2.2.2.2.2)
     else bif decide (y4.1=2) then
      (Dr (x1.1,y4.2.2.2.2.2.1,(y4.2.2.2.2.2.2.1,y4.2.2.2.2.2.2.2.1,y4.2.2.2.2.2.2.2.2.1,y4.2.2.2.2.2.2.2.2.2.1))).bind fun r6=>
      some ((r6.1.1,r6.1.2.1,r6.1.2.2.1,r6.1.2.2.2.1,r6.1.2.2.2.2.1,r6.1.2.2.2.2.2.1,r6.1.2.2.2.2.2.2.1,r6.1.2.2.2.2.2.2.2.1,r6.1.2.2.2.2.2.2.2.2.1,r6.1.2.2.2.2.2.2.2.2.2.1,r6.1.2.2.2.2.2.2.2.2.2.2.1,r6.1.2.2.2.2.2.2.2.2.2.2.2.1,r6.1.2.2.2.2.2.2.2.2.2.2.2.2.1,r6.1.2.2.2.2.2.2.2.2.2.2.2.2.2.1,r6.1.2.2.2.2.2.2.2.2.2.2.2.2.2.2.1),r6.1.2.2.2.2.2.2.2.2.2.2.2.2.2.2.2)
     else some (x1.1,(0:Int))).bind fun x7=>
    bif decide (x7.2=0) then
     some (Sum.inr (((0:Int),[],[],[],[],(0:Int),(0:Int),(0:Int),(0:Int),(0:Int),(0:Int),(0:Int),[],(0:Int),[]),false))
    else some (Sum.inl (x7.1,x1.2.1)):Option ((eO × eO) ⊕ (eO × Bool))).bind fun y=>match y with
   | .inl x8=>
    self2 (x8.1,x8.2,IntKind.wrap .i64 (x1.2.2+1))
   | .inr x8=>
    some (Sum.inr (x8.1,x8.2))
  else some (Sum.inl (x1.1,x1.2.1))) ((r0.1.1,r0.1.2.1,r0.1.2.2.1,r0.1.2.2.2.1,r0.1.2.2.2.2.1,r0.1.2.2.2.2.2.1,r0.1.2.2.2.2.2.2.1,r0.1.2.2.2.2.2.2.2.1,r0.1.2.2.2.2.2.2.2.2.1,r0.1.2.2.2.2.2.2.2.2.2.1,r0.1.2.2.2.2.2.2.2.2.2.2.1,r0.1.2.2.2.2.2.2.2.2.2.2.2.1,r0.1.2.2.2.2.2.2.2.2.2.2.2.2.1,r0.1.2.2.2.2.2.2.2.2.2.2.2.2.2.1,r0.1.2.2.2.2.2.2.2.2.2.2.2.2.2.2.1),((0:Int),[],[],[],[],(0:Int),(0:Int),(0:Int),(0:Int),(0:Int),(0:Int),(0:Int),[],(0:Int),[]),(0:Int))).bind fun y=>match y with
 | .inl x9=>
  some ((x9.1.1,x9.1.2.1,x9.1.2.2.1,x9.1.2.2.2.1,x9.1.2.2.2.2.1,x9.1.2.2.2.2.2.1,x9.1.2.2.2.2.2.2.1,x9.1.2.2.2.2.2.2.2.1,x9.1.2.2.2.2.2.2.2.2.1,x9.1.2.2.2.2.2.2.2.2.2.1,x9.1.2.2.2.2.2.2.2.2.2.2.1,x9.1.2.2.2.2.2.2.2.2.2.2.2.1,x9.1.2.2.2.2.2.2.2.2.2.2.2.2.1,x9.1.2.2.2.2.2.2.2.2.2.2.2.2.2.1,x9.1.2.2.2.2.2.2.2.2.2.2.2.2.2.2,true),())
 | .inr x9=>
  some ((x9.1.1,x9.1.2.1,x9.1.2.2.1,x9.1.2.2.2.1,x9.1.2.2.2.2.1,x9.1.2.2.2.2.2.1,x9.1.2.2.2.2.2.2.1,x9.1.2.2.2.2.2.2.2.1,x9.1.2.2.2.2.2.2.2.2.1,x9.1.2.2.2.2.2.2.2.2.2.1,x9.1.2.2.2.2.2.2.2.2.2.2.1,x9.1.2.2.2.2.2.2.2.2.2.2.2.1,x9.1.2.2.2.2.2.2.2.2.2.2.2.2.1,x9.1.2.2.2.2.2.2.2.2.2.2.2.2.2.1,x9.1.2.2.2.2.2.2.2.2.2.2.2.2.2.2,x9.2),()):=by kernel_rfl
def U9:TC:=
 (zS [qi 6 1000000007,bB 7] (zS [dz 13 0 1,zMx 15 110 13 14 12,zDc 12 15 16 12,xh 17 12 15,qi 8 1000000009,pF 8 16 8 16] (zQ (.join [⟨8,bE,false⟩,⟨9,[.b],false⟩] 9223372036854517504 none (zS [bO 10] (.block 0 (.loop [⟨8,bE,false⟩,⟨9,[.b],false⟩,⟨10,[.i .i64],false⟩] 9223372036854517504 (zQ (.seq (.join [⟨24,[.b],false⟩] 33292288 none (zR [Cb 18 10 2,Cc 22 21 9 4,pu 22 23 24])) (zC 24 .skip (.exit 0))) (zQ (.join [⟨8,bE,false⟩,⟨9,[.b],false⟩] 9223372036720560896 none (.block 1 (zS [bO 11] (zQ (.join [⟨8,bE,false⟩,⟨11,[.i .i64],false⟩] 2305843009079478528 none (zS [dz 27 2 10,Tx 29 27 28 14] (.block 2 (zS [TH 33 31 1] (zC 32 (zR [dz 36 2 10,iZ 35 8 15,OI 38 36 37,[o1 40 (.load 36 [(0,14)] 1 (.t 39) 4 false)],jO 41 11 35 40,Ty 41 34 41 15,[o4 2 [8,42,35] (.store 8 [] 0 .nil (.t 42))],au 11 43]) (zS [yN 45 31 2 44] (zC 44 (zR [dz 48 2 10,dz 53 2 10,iZ 47 8 15,zMe 50 48 49 14 5,OI 55 53 54,[o1 57 (.load 53 [(0,14)] 6 (.t 56) 4 false)],D9 58 19 47 52 57,Ty 58 46 58 15,[o4 2 [8,59,47] (.store 8 [] 0 .nil (.t 59))],au 11 60]) .skip))))))) (zR [au 61 11,zDi 62 61 0,au 9 62]))))) (zR [JK 25 10]))))))) (zQ (zS [au 63 9,jT 64 63] (zC 64 (zS [zBp 65,Ce 6 65 6 65] .ret) .skip)) (zS [iZ 66 8 15,gI 67 51 66,iY 6 67 6 67,ic 7] .ret)))))
def U_:aM:=⟨[.rd false [.d],.rd false [.d],.rd false Ct2],(.tup [(true,15),(false,1)] Ct0)⟩
def Vd:aL:=aG [(110,K3),(11,acz),(19,acD),(51,CG)]
def IW (n:Nat):Int × Int × (List Zt7)->Option (Zt1 × Unit):=aI n Vd U9 [[.i .i64],[.i .i64],yE] Ty1 [] [6,7] .no
def IY:=IW BIG
def Ve:TSp:=⟨U_,[[.i .i64],[.i .i64],yE],Ty1,[],Ou.j .no,IY⟩
theorem alU:zK Vd 31 U_ U9 68 .no [6,7]:=by show _=_;kernel_rfl
theorem ai0:Ve.Ok PG 31:=aQ (af TM (af ail (af aiC (af Ij (az PG))))) alU (by kernel_rfl)
theorem alV (n) (a0) (a1) (a2):IW n (a0,a1,a2) = (tL (a0,a1)).bind fun r0=> (aK n (X:=eO × Bool × Int) (B:=eO × Bool) (fun self2 x1=> (bif decide (x1.2.2<(a2.length:Int)) then some x1.2.1 else some false).bind fun x3=> bif x3 then ((bnd a2.length x1.2.2 fun n4=> a2[n4]?.bind fun y5=> bif decide (y5.1=1) then bnd a2.length x1.2.2 fun n6=> a2[n6]?.bind fun y7=> (Dp (x1.1,(y7.2.1,y7.2.2.1,y7.2.2.2.1,y7.2.2.2.2.1))).bind fun r8=> some ((r8.1.1,r8.1.2.1,r8.1.2.2.1,r8.1.2.2.2.1,r8.1.2.2.2.2.1,r8.1.2.2.2.2.2.1,r8.1.2.2.2.2.2.2.1,r8.1.2.2.2.2.2.2.2.1,r8.1.2.2.2.2.2.2.2.2.1,r8.1.2.2.2.2.2.2.2.2.2.1,r8.1.2.2.2.2.2.2.2.2.2.2.1,r8.1.2.2.2.2.2.2.2.2.2.2.2.1,r8.1.2.2.2.2.2.2.2.2.2.2.2.2.1,r8.1.2.2.2.2.2.2.2.2.2.2.2.2.2.1,r8.1.2.2.2.2.2.2.2.2.2.2.2.2.2.2.1),r8.1.2.2.2.2.2.2.2.2.2.2.2.2.2.2.2) else bif decide (y5.1=2) then bnd a2.length x1.2.2 fun n9=> a2[n9]?.bind fun y10=> bnd a2.length x1.2.2 fun n11=> a2[n11]?.bind fun y12=> (zz (x1.1,y10.2.2.2.2.2.1,(y12.2.2.2.2.2.2.1,y12.2.2.2.2.2.2.2.1,y12.2.2.2.2.2.2.2.2.1,y12.2.2.2.2.2.2.2.2.2.1))).bind fun r13=> some ((r13.1.1,r13.1.2.1,r13.1.2.2.1,r13.1.2.2.2.1,r13.1.2.2.2.2.1,r13.1.2.2.2.2.2.1,r13.1.2.2.2.2.2.2.1,r13.1.2.2.2.2.2.2.2.1,r13.1.2.2.2.2.2.2.2.2.1,r13.1.2.2.2.2.2.2.2.2.2.1,r13.1.2.2.2.2.2.2.2.2.2.2.1,r13.1.2.2.2.2.2.2.2.2.2.2.2.1,r13.1.2.2.2.2.2.2.2.2.2.2.2.2.1,r13.1.2.2.2.2.2.2.2.2.2.2.2.2.2.1,r13.1.2.2.2.2.2.2.2.2.2.2.2.2.2.2.1),r13.1.2.2.2.2.2.2.2.2.2.2.2.2.2.2.2) else some (x1.1,(0:Int))).bind fun x14=> some (x14.1,!decide (x14.2=0)):Option (eO × Bool)).bind fun x15=> self2 (x15.1,x15.2,IntKind.wrap .i64 (x1.2.2+1)) else some (x1.1,x1.2.1)) ((r0.1.1,r0.1.2.1,r0.1.2.2.1,r0.1.2.2.2.1,r0.1.2.2.2.2.1,r0.1.2.2.2.2.2.1,r0.1.2.2.2.2.2.2.1,r0.1.2.2.2.2.2.2.2.1,r0.1.2.2.2.2.2.2.2.2.1,r0.1.2.2.2.2.2.2.2.2.2.1,r0.1.2.2.2.2.2.2.2.2.2.2.1,r0.1.2.2.2.2.2.2.2.2.2.2.2.1,r0.1.2.2.2.2.2.2.2.2.2.2.2.2.1,r0.1.2.2.2.2.2.2.2.2.2.2.2.2.2.1,r0.1.2.2.2.2.2.2.2.2.2.2.2.2.2.2.1),r0.1.2.2.2.2.2.2.2.2.2.2.2.2.2.2.2,(0:Int))).bind fun x16=> bif !x16.2 then some (((0:Int),[],[],[],[],(0:Int),(0:Int),(0:Int),(0:Int),(0:Int),(0:Int),(0:Int),[],(0:Int),[],false),()) else (og x16.1).bind fun r17=> some ((r17.1.1,r17.1.2.1,r17.1.2.2.1,r17.1.2.2.2.1,r17.1.2.2.2.2.1,r17.1.2.2.2.2.2.1,r17.1.2.2.2.2.2.2.1,r17.1.2.2.2.2.2.2.2.1,r17.1.2.2.2.2.2.2.2.2.1,r17.1.2.2.2.2.2.2.2.2.2.1,r17.1.2.2.2.2.2.2.2.2.2.2.1,r17.1.2.2.2.2.2.2.2.2.2.2.2.1,r17.1.2.2.2.2.2.2.2.2.2.2.2.2.1,r17.1.2.2.2.2.2.2.2.2.2.2.2.2.2.1,r17.1.2.2.2.2.2.2.2.2.2.2.2.2.2.2,true),()):=by kernel_rfl
def Vf:TC:=
 (zS [bB 4] (zQ (zS [xw 6 0 6,xw 8 1 8,xn 10 7 9] (zC 10 (zS [bB 4] .ret) .skip)) (zQ (.join [] 67106864 (some [⟨4,[.b],false⟩]) (zS [bO 5] (.block 0 (.loop [⟨5,[.i .i64],false⟩] 67106864 (zQ (zS [Cb 11 5 0] (zC 14 .skip (.exit 0))) (zQ (.block 1 (zS [dz 17 0 5,dz 21 1 5,kW 19 17 18 6 6,kW 23 21 22 6 6,[o1 25 (.eqA [.i,.i,.i,.i,.i,.i] (.t 20) (.t 24) true)]] (zC 25 (zS [bB 4] .ret) .skip))) (zR [ig 15 5 5]))))))) (zS [ic 4] .ret))))
def Vg:aM:=⟨[.rd false Ct8,.rd false Ct8],(.one false [.d])⟩
def Vh:aL:=aG []
def IZ (n:Nat):(List vD) × (List vD)->Option ((Bool) × Unit):=aI n Vh Vf [Oy,Oy] [.b] [] [4] .no
def qH:=IZ BIG
def Vi:TSp:=⟨Vg,[Oy,Oy],[.b],[],Ou.j .no,qH⟩
theorem alW:zK Vh 17 Vg Vf 26 .no [4]:=by show _=_;kernel_rfl
theorem ai1:Vi.Ok PG 17:=aQ (az PG) alW (by kernel_rfl)
theorem alX (n) (a0) (a1):IZ n (a0,a1) = bif !decide ((a0.length:Int)=(a1.length:Int)) then some (false,()) else (aK n (X:=Int) (B:=(Unit) ⊕ (Bool)) (fun self1 x0=> bif decide (x0<(a0.length:Int)) then bnd a0.length x0 fun n2=> a0[n2]?.bind fun y3=> bnd a1.length x0 fun n4=> a1[n4]?.bind fun y5=> bif !(decide (y3.1=y5.1)&&(decide (y3.2.1=y5.2.1)&&(decide (y3.2.2.1=y5.2.2.1)&&(decide (y3.2.2.2.1=y5.2.2.2.1)&&(decide (y3.2.2.2.2.1=y5.2.2.2.2.1)&&(decide (y3.2.2.2.2.2=y5.2.2.2.2.2)&&true)))))) then some (Sum.inr false) else self1 (IntKind.wrap .i64 (x0+1)) else some (Sum.inl ())) (0:Int)).bind fun y=>match y with | .inl x6=> some (true,()) | .inr x6=> some (x6,()):=by kernel_rfl
def Qu:TC:=
 (zS [bB 4] (zQ (zS [xw 6 0 6,xw 8 1 8,xn 10 7 9] (zC 10 (zS [bB 4] .ret) .skip)) (zQ (.join [] 67106864 (some [⟨4,[.b],false⟩]) (zS [bO 5] (.block 0 (.loop [⟨5,[.i .i64],false⟩] 67106864 (zQ (zS [Cb 11 5 0] (zC 14 .skip (.exit 0))) (zQ (.block 1 (zS [dz 17 0 5,dz 21 1 5,kW 19 17 18 2 2,kW 23 21 22 2 2,zEk 25 20 24] (zC 25 (zS [bB 4] .ret) .skip))) (zR [ig 15 5 5]))))))) (zS [ic 4] .ret))))
def Qv:aM:=⟨[.rd false iM,.rd false iM],(.one false [.d])⟩
def Qw:aL:=aG []
def EQ (n:Nat):(List aR) × (List aR)->Option ((Bool) × Unit):=aI n Qw Qu [[.sl [.i .i64,.i .i64]],[.sl [.i .i64,.i .i64]]] [.b] [] [4] .no
def ER:=EQ BIG
def Qx:TSp:=⟨Qv,[[.sl [.i .i64,.i .i64]],[.sl [.i .i64,.i .i64]]],[.b],[],Ou.j .no,ER⟩
theorem ai2:zK Qw 20 Qv Qu 26 .no [4]:=by show _=_;kernel_rfl
theorem af_:Qx.Ok PG 20:=aQ (az PG) ai2 (by kernel_rfl)
theorem ai3 (n) (a0) (a1):EQ n (a0,a1) = bif !decide ((a0.length:Int)=(a1.length:Int)) then some (false,()) else (aK n (X:=Int) (B:=(Unit) ⊕ (Bool)) (fun self1 x0=> bif decide (x0<(a0.length:Int)) then bnd a0.length x0 fun n2=> a0[n2]?.bind fun y3=> bnd a1.length x0 fun n4=> a1[n4]?.bind fun y5=> bif !(decide (y3.1=y5.1)&&(decide (y3.2=y5.2)&&true)) then some (Sum.inr false) else self1 (IntKind.wrap .i64 (x0+1)) else some (Sum.inl ())) (0:Int)).bind fun y=>match y with | .inl x6=> some (true,()) | .inr x6=> some (x6,()):=by kernel_rfl
def Vj:TC:=
 (zS [bB 4] (zQ (zS [xw 6 0 6,xw 8 1 8,xn 10 7 9] (zC 10 (zS [bB 4] .ret) .skip)) (zQ (.join [] 67106864 (some [⟨4,[.b],false⟩]) (zS [bO 5] (.block 0 (.loop [⟨5,[.i .i64],false⟩] 67106864 (zQ (zS [Cb 11 5 0] (zC 14 .skip (.exit 0))) (zQ (.block 1 (zS [dz 17 0 5,dz 21 1 5,nE 19 17 18 1,nE 23 21 22 1,xn 25 20 24] (zC 25 (zS [bB 4] .ret) .skip))) (zR [ig 15 5 5]))))))) (zS [ic 4] .ret))))
def Vk:aM:=⟨[.rd false fG,.rd false fG],(.one false [.d])⟩
def Vl:aL:=aG []
def I1 (n:Nat):List Int × List (Int)->Option ((Bool) × Unit):=aI n Vl Vj [[.sl [.i .i64]],[.sl [.i .i64]]] [.b] [] [4] .no
def I4:=I1 BIG
def Vm:TSp:=⟨Vk,[[.sl [.i .i64]],[.sl [.i .i64]]],[.b],[],Ou.j .no,I4⟩
theorem alY:zK Vl 21 Vk Vj 26 .no [4]:=by show _=_;kernel_rfl
theorem ai4:Vm.Ok PG 21:=aQ (az PG) alY (by kernel_rfl)
theorem alZ (n) (a0) (a1):I1 n (a0,a1) = bif !decide ((a0.length:Int)=(a1.length:Int)) then some (false,()) else (aK n (X:=Int) (B:=(Unit) ⊕ (Bool)) (fun self1 x0=> bif decide (x0<(a0.length:Int)) then bnd a0.length x0 fun n2=> a0[n2]?.bind fun y3=> bnd a1.length x0 fun n4=> a1[n4]?.bind fun y5=> bif !decide (y3=y5) then some (Sum.inr false) else self1 (IntKind.wrap .i64 (x0+1)) else some (Sum.inl ())) (0:Int)).bind fun y=>match y with | .inl x6=> some (true,()) | .inr x6=> some (x6,()):=by kernel_rfl
def Nu:TC:=
 (zS [yF 2] (zS [au 6 0,gI 7 37 6,dD 3] (zS [su 8 3,[⟨false,[],[],.call 2 111 [.t 7] (.mp 0),[9,7],(some 9),none⟩]] (zS [TG 10 4] (zQ (.join [⟨4,[.sl [.i .i64]],false⟩] 1046704 none (zS [bO 5] (.block 0 (.loop [⟨4,[.sl [.i .i64]],false⟩,⟨7,gZ,false⟩,⟨5,[.i .i64],false⟩] 1046704 (zQ (zS [au 11 5,[o1 12 (.data (.bin .lss) [.t 11,kD 12])]] (zC 12 .skip (.exit 0))) (zQ (.block 1 (zR [dK 4 15 4,su 16 3,zAB 7 10000 17 7 17,JD 18 17,M6 15 18 19 15 4])) (zR [ig 13 5 5]))))))) (zS [t_ 4 20 4 2] .ret))))))
def Nv:aM:=⟨[.rd false fG],(.one false fG)⟩
def Nw:aL:=aG [(37,Gg),(111,KZ),(112,mD)]
def BM (n:Nat):List (Int)->Option ((List Int) × Unit):=aI n Nw Nu [[.sl [.i .u8]]] [.sl [.i .i64]] [] [2] .no
def uU:=BM BIG
def Ny:TSp:=⟨Nv,[[.sl [.i .u8]]],[.sl [.i .i64]],[],Ou.j .no,uU⟩
theorem aga:zK Nw 32 Nv Nu 21 .no [2]:=by show _=_;kernel_rfl
theorem acO:Ny.Ok PG 32:=aQ (af KX (af TI (af mW (az PG)))) aga (by kernel_rfl)
theorem agb (n) (a0):BM n a0 = (wm a0).bind fun r0=> (l_ r0.1).bind fun r1=> (aK n (X:=(List Int) × (List Int × Int × Int) × Int) (B:=(List Int)) (fun self3 x2=> bif decide (x2.2.2<12) then (fH (x2.2.1,(10000:Int))).bind fun r4=> bif decide (x2.1.length+[r4.1].length<=4294967296) then self3 (x2.1++[r4.1],r4.2,IntKind.wrap .i64 (x2.2.2+1)) else none else some x2.1) ([],r1.2,(0:Int))).bind fun x5=> some (x5,()):=by kernel_rfl
def aaA:TC:=
 (zS [bB 4] (zS [dD 5,au 6 1,Tp 112 6 7 7,xm 8 7 0,au 4 8] .ret))
def aaB:aM:=⟨[.mp [.sl (.ro []) [.d],.d,.d],.rd false [.d]],(.one false [.d])⟩
def aaC:aL:=aG [(112,mD)]
def L_ (n:Nat):(List Int × Int × Int) × Int->Option ((Bool) × List Int × Int × Int):=aI n aaC aaA [gZ,[.i .i64]] [.b] gZ [4] (.mp 0)
def xU:=L_ BIG
def aaD:TSp:=⟨aaB,[gZ,[.i .i64]],[.b],gZ,Ou.j (.mp 0),xU⟩
theorem aqI:zK aaC 77 aaB aaA 9 (.mp 0) [4]:=by show _=_;kernel_rfl
theorem al0:aaD.Ok PG 77:=aQ (af mW (az PG)) aqI (by kernel_rfl)
theorem aqJ (n) (a0) (a1):L_ n (a0,a1) = (fH (a0,a1)).bind fun r0=> some (decide (r0.1=0),r0.2):=by kernel_rfl
def ES:TC:=
 (zS [bO 2,bO 3,zIt 4] (zS [au 10 0,gI 11 37 10,dD 5] (zS [su 13 5,au 14 0,OH 108 11 14 1 15 11 15,dK 15 12 15,xh 16 12 0,xh 17 12 1,zIn 12 2 1 18 12,yL 6 16,zIp 18 18 8 18 8] (zQ (.join [⟨8,yE,false⟩] 1099511106304 none (zQ (.join [⟨11,gZ,false⟩,⟨25,[.b],false⟩] 66586624 none (zR [au 19 8,mr 20 19,YH 21 20 0,au 22 21,zJf 23 5 3,[⟨false,[],[],.call 2 77 [.t 11,kO 5] (.mp 0),[24,11],(some 24),some (3,true)⟩],pu 22 24 25])) (zC 25 (zS [su 26 5,au 27 8,mr 28 27,zGB 112 11 28 29 11 29,au 9 29] (zR [dz 31 8 9,dz 35 8 9,[o1 30 (.sli Ty6 []),⟨true,[],[],.det 1 (.res 31 none (some (.t 32))),[33],(some 33),none⟩],zIB 30 30 33 34 30 30 34,BZ 37 36,[⟨true,[],[],.det 1 (.res 35 (some (.t 37)) none),[38],(some 38),none⟩],yG 34 38 39 34,zIp 39 39 8 39 8])) .skip))) (zS [dz 40 6 8,nZ 2 1,yL 3 40] .ret)))))
def ET:aM:=⟨[.rd false fG],(.tup [(false,1),(false,1),(false,1)] [.d,.d,.sl (.ro [0]) [.d,.d,.d,.d,.d,.d,.d,.d,.sl (.ro [0]) [.d,.d],.sl (.ro [0]) [.d],.d,.d,.sl (.ro [0]) [.d,.d],.d]])⟩
def EU:aL:=aG [(37,Gg),(108,LM),(77,aaD),(112,mD)]
def vM (n:Nat):List (Int)->Option (Zt5 × Unit):=aI n EU ES [[.sl [.i .u8]]] Ty3 [] [2,3,4] .no
def vN:=vM BIG
def EW:TSp:=⟨ET,[[.sl [.i .u8]]],Ty3,[],Ou.j .no,vN⟩
theorem Xm:zK EU 33 ET ES 42 .no [2,3,4]:=by show _=_;kernel_rfl
theorem Td:EW.Ok PG 33:=aQ (af KX (af UE (af al0 (af mW (az PG))))) Xm (by kernel_rfl)
theorem Xn (n) (a0):vM n a0 = (wm a0).bind fun r0=> (CW (r0.1,a0,(1:Int))).bind fun r1=> ((bif decide (0<(r1.1.2.2.length:Int)) then (xU (r1.2,(5:Int))).bind fun r2=> some (r2.2,r2.1) else some (r1.2,false)).bind fun x3=> bif x3.2 then (fH (x3.1,(r1.1.2.2.length:Int))).bind fun r4=> bif decide (0<=r4.1) then bif decide (0<=(Int.toNat r4.1)/\(Int.toNat r4.1)<=r1.1.2.2.length) then bif decide (0+(List.take ((Int.toNat r4.1)-0) (List.drop 0 r1.1.2.2)).length<=4294967296) then bif decide (0<=(IntKind.wrap .i64 (r4.1+1))) then bif decide ((Int.toNat (IntKind.wrap .i64 (r4.1+1)))<=r1.1.2.2.length/\r1.1.2.2.length<=r1.1.2.2.length) then bif decide (([]++(List.take ((Int.toNat r4.1)-0) (List.drop 0 r1.1.2.2))).length+(List.take (r1.1.2.2.length-(Int.toNat (IntKind.wrap .i64 (r4.1+1)))) (List.drop (Int.toNat (IntKind.wrap .i64 (r4.1+1))) r1.1.2.2)).length<=4294967296) then some (([]++(List.take ((Int.toNat r4.1)-0) (List.drop 0 r1.1.2.2)))++(List.take (r1.1.2.2.length-(Int.toNat (IntKind.wrap .i64 (r4.1+1)))) (List.drop (Int.toNat (IntKind.wrap .i64 (r4.1+1))) r1.1.2.2))) else none else none else none else none else none else none else some r1.1.2.2:Option ((List YU))).bind fun x5=> some (((1:Int),r1.1.1,x5),()):=by kernel_rfl
def afi:TC:=
 (zS [D5 2 1000000003,bB 3] (zQ (zS [au 4 0,pz 5 48 4 12,jT 6 5] (zC 6 (zS [zBD 7,Ce 2 7 2 7] .ret) .skip)) (zS [au 8 0,zBE 9 8,iY 2 9 2 9,ic 3] .ret)))
def afj:aM:=⟨[.rd false [.d]],(.tup [(true,2),(false,1)] Ct7)⟩
def afk:aL:=aG [(48,lm)]
def Qy (n:Nat):Int->Option (apI × Unit):=aI n afk afi [[.i .i64]] Oz [] [2,3] .no
def Qz:=Qy BIG
def afl:TSp:=⟨afj,[[.i .i64]],Oz,[],Ou.j .no,Qz⟩
theorem auh:zK afk 178 afj afi 10 .no [2,3]:=by show _=_;kernel_rfl
theorem aqK:afl.Ok PG 178:=aQ (af jW (az PG)) auh (by kernel_rfl)
theorem aui (n) (a0):Qy n a0 = (fw (a0,(1:Int),(12:Int))).bind fun r0=> bif !r0.1 then some (((0:Int),[],false),()) else some ((a0,[],true),()):=by kernel_rfl
def Vn:TC:=
 (zS [D6 4 1000000005,bB 5] (zS [au 9 1,YR 10 178 9 8,zDc 8 2 11 8,xh 12 8 2,D5 6 1000000007,pF 6 11 6 11] (zQ (.seq (.join [⟨19,[.b],false⟩] 1040384 none (zR [au 13 0,pz 14 48 13 3,JM 15 14 7 3,tZ 18 17 3 16])) (zC 19 (zS [zDe 20,Ce 4 20 4 20] .ret) .skip)) (zS [au 21 0,iZ 22 6 2,zDf,iY 4 23 4 23,ic 5] .ret))))
def Vo:aM:=⟨[.rd false [.d],.rd false [.d]],(.tup [(true,7),(false,1)] Ct3)⟩
def Vp:aL:=aG [(178,afl),(48,lm)]
def I5 (n:Nat):Int × Int->Option (Zt8 × Unit):=aI n Vp Vn [[.i .i64],[.i .i64]] Ty8 [] [4,5] .no
def I6:=I5 BIG
def Vq:TSp:=⟨Vo,[[.i .i64],[.i .i64]],Ty8,[],Ou.j .no,I6⟩
theorem al1:zK Vp 113 Vo Vn 24 .no [4,5]:=by show _=_;kernel_rfl
theorem ai5:Vq.Ok PG 113:=aQ (af aqK (af jW (az PG))) al1 (by kernel_rfl)
theorem al2 (n) (a0) (a1):I5 n (a0,a1) = (Qz a1).bind fun r0=> ((fw (a0,(1:Int),(3:Int))).bind fun r1=> bif !r1.1 then some true else some !r0.1.2.2).bind fun x2=> bif x2 then some (((0:Int),(0:Int),[],(0:Int),false,[],[],false),()) else some ((a0,r0.1.1,r0.1.2.1,(0:Int),false,[],[],true),()):=by kernel_rfl
def aaE:TC:=
 (zS [dN 1 0,zGC 2 1000000003] (zS [iV 6 1 0 6,[o1 8 (.build kU [(0,.t 7)])],zGC 3 1000000004,iY 3 8 3 8] (zQ (.join [⟨3,kU,false⟩] 134217256 none (zS [iV 9 1 1 9,sw 11 10] (.block 0 (.loop [⟨3,kU,false⟩,⟨12,[.i .i64],false⟩] 134213672 (zS [gH 13 12 11] (zQ (zC 13 .skip (.exit 0)) (zQ (.block 1 (zS [kW 14 10 12 4 4,Tt 5 1000000006,eB 5 5 15] (zR [uA 16 3 1,pG 18 5 0 5 1,M3 22 19 21,zGh 23 22,YO 17 17 23 24 17 17 3 24 3 3 1]))) (zR [mV 26 12])))))))) (zS [xu 27 3 2 2 2 3] .ret))))
def aaF:aM:=⟨[.rd true nJ],(.one true OD)⟩
def aaG:aL:=aG []
def Ma (n:Nat):eD->Option (BH × Unit):=aI n aaG aaE [bK] kU [] [2] .no
def mg:=Ma BIG
def xV:TSp:=⟨aaF,[bK],kU,[],Ou.j .no,mg⟩
theorem aqL:zK aaG 150 aaF aaE 28 .no [2]:=by show _=_;kernel_rfl
theorem Ay:xV.Ok PG 150:=aQ (az PG) aqL (by kernel_rfl)
theorem aqM (n) (a0):Ma n a0 = (aK n (X:=BH × Int) (B:=BH) (fun self1 x0=> bif decide (x0.2<(a0.2.length:Int)) then bnd a0.2.length x0.2 fun n2=> a0.2[n2]?.bind fun y3=> bif decide (x0.1.2.length+([(y3.1,y3.2.1)]).length<=4294967296) then self1 ((x0.1.1,x0.1.2++([(y3.1,y3.2.1)])),IntKind.wrap .i64 (x0.2+1)) else none else some x0.1) ((a0.1,[]),(0:Int))).bind fun x4=> some (x4,()):=by kernel_rfl
def aaH:TC:=
 (zS [kX 1 0] (zQ (.join [⟨2,[.b],false⟩] 8188 none (zR [iV 3 1 0 3,pz 5 48 4 12,au 6 5,ry 7 3,B_ 8 1 0 7 3,ry 9 3,B_ 10 1 1 9 3,qj 144 8 10 11 11 3,nG 6 11 12 2])) .ret))
def aaI:aM:=⟨[.rd true OD],(.one false [.d])⟩
def aaJ:aL:=aG [(48,lm),(144,xQ)]
def Mc (n:Nat):BH->Option ((Bool) × Unit):=aI n aaJ aaH [kU] [.b] [] [2] .no
def C8:=Mc BIG
def Me:TSp:=⟨aaI,[kU],[.b],[],Ou.j .no,C8⟩
theorem aqN:zK aaJ 193 aaI aaH 13 .no [2]:=by show _=_;kernel_rfl
theorem Vr:Me.Ok PG 193:=aQ (af jW (af Ar (az PG))) aqN (by kernel_rfl)
theorem aqO (n) (a0):Mc n a0 = ((fw (a0.1,(1:Int),(12:Int))).bind fun r0=> bif r0.1 then (tO (a0.1,a0.2)).bind fun r1=> some r1.1 else some false).bind fun x2=> some (x2,()):=by kernel_rfl
def QA:TC:=
 (zS [dN 1 0,A9 2] (zS [A9 3] (zQ (.join [⟨3,[.sl [.i .i64,.i .i64]],false⟩] 16777192 none (zS [iV 6 1 1 6,sw 8 7] (.block 0 (.loop [⟨3,[.sl [.i .i64,.i .i64]],false⟩,⟨9,[.i .i64],false⟩] 16776744 (zS [gH 10 9 8] (zQ (zC 10 .skip (.exit 0)) (zQ (.join [⟨3,[.sl [.i .i64,.i .i64]],false⟩] 8386600 none (.block 1 (zS [OJ 11 7 9 7 4 4,Tt 5 1000000006,eB 5 5 12] (zS [bR 13 5 3] (zC 14 (zR [dK 3 15 3,pG 16 5 0 5 1,M3 20 17 19,JL 21 20 15 15 3]) .skip))))) (zR [BZ 23 9,au 9 23])))))))) (zS [t_ 3 24 3 2] .ret))))
def QB:aM:=⟨[.rd true nJ],(.one false iM)⟩
def QC:aL:=aG []
def EX (n:Nat):eD->Option ((List aR) × Unit):=aI n QC QA [bK] [.sl [.i .i64,.i .i64]] [] [2] .no
def EY:=EX BIG
def QD:TSp:=⟨QB,[bK],[.sl [.i .i64,.i .i64]],[],Ou.j .no,EY⟩
theorem ai6:zK QC 195 QB QA 25 .no [2]:=by show _=_;kernel_rfl
theorem agc:QD.Ok PG 195:=aQ (az PG) ai6 (by kernel_rfl)
theorem ai7 (n) (a0):EX n a0 = (aK n (X:=(List aR) × Int) (B:=(List aR)) (fun self1 x0=> bif decide (x0.2<(a0.2.length:Int)) then (bnd a0.2.length x0.2 fun n2=> a0.2[n2]?.bind fun y3=> bif y3.2.2.2 then bif decide (x0.1.length+([(y3.1,y3.2.1)]).length<=4294967296) then some (x0.1++([(y3.1,y3.2.1)])) else none else some x0.1:Option ((List aR))).bind fun x4=> self1 (x4,IntKind.wrap .i64 (x0.2+1)) else some x0.1) ([],(0:Int))).bind fun x5=> some (x5,()):=by kernel_rfl
def ai8:TC:=
 (zS [bB 4] (zS [au 8 0,gI 9 177 8,dK 9 5 9] (zQ (.join [] 16776368 (some [⟨4,[.b],false⟩]) (zS [M7 10 1] (.block 0 (.loop [⟨5,[.sl [.i .i64]],false⟩,⟨12,[.i .i64],false⟩] 16773296 (zS [gH 13 12 11] (zQ (zC 13 .skip (.exit 0)) (zQ (.block 1 (zS [kW 14 10 12 2 2,rC 7 1000000008,eB 7 7 15] (zS [gp 16 5,pG 17 7 0 7 1,zIE 16 18 20 5 16 21 5 16 21,jT 22 21] (zC 22 (zS [ic 4] .ret) .skip)))) (zR [mV 23 12])))))))) (zS [bB 4] .ret))))
def ai9:aM:=⟨[.rd false [.d],.rd false iM],(.one false [.d])⟩
def ai_:aL:=aG [(177,EB),(188,L6)]
def Xo (n:Nat):Int × (List aR)->Option ((Bool) × Unit):=aI n ai_ ai8 [[.i .i64],[.sl [.i .i64,.i .i64]]] [.b] [] [4] .no
def Xp:=Xo BIG
def aja:TSp:=⟨ai9,[[.i .i64],[.sl [.i .i64,.i .i64]]],[.b],[],Ou.j .no,Xp⟩
theorem awI:zK ai_ 194 ai9 ai8 24 .no [4]:=by show _=_;kernel_rfl
theorem auj:aja.Ok PG 194:=aQ (af GI (af Qg (az PG))) awI (by kernel_rfl)
theorem awJ (n) (a0) (a1):Xo n (a0,a1) = (zF a0).bind fun r0=> (aK n (X:=(List Int) × Int) (B:=(Unit) ⊕ (Bool)) (fun self2 x1=> bif decide (x1.2<(a1.length:Int)) then bnd a1.length x1.2 fun n3=> a1[n3]?.bind fun y4=> (zI (x1.1,y4.1,y4.2)).bind fun r5=> bif !r5.1 then some (Sum.inr true) else self2 (r5.2,IntKind.wrap .i64 (x1.2+1)) else some (Sum.inl ())) (r0.1,(0:Int))).bind fun y=>match y with | .inl x6=> some (false,()) | .inr x6=> some (x6,()):=by kernel_rfl
def afm:TC:=
 (zS [dN 2 0,A9 4] (zS [A9 5] (zQ (.join [⟨5,[.sl [.i .i64,.i .i64]],false⟩] 4294967200 none (zS [iV 8 2 1 8,sw 10 9] (.block 0 (.loop [⟨5,[.sl [.i .i64,.i .i64]],false⟩,⟨11,[.i .i64],false⟩] 4294965408 (zS [gH 12 11 10] (zQ (zC 12 .skip (.exit 0)) (zQ (.join [⟨5,[.sl [.i .i64,.i .i64]],false⟩] 2147475616 none (.block 1 (zS [OJ 13 9 11 9 4 4,Tt 7 1000000008,eB 7 7 14] (zQ (.join [⟨22,[.b],false⟩] 8355840 none (zR [bR 15 7 3,uB 17 16 2 7 2 2,iJ 20 1 2,zGE 21 19 20 2,pu 17 21 22])) (zC 22 (zR [dK 5 23 5,pG 24 7 0 7 1,M3 28 25 27,JL 29 28 23 23 5]) .skip))))) (zR [mV 31 11])))))))) (zS [t_ 5 32 5 4] .ret))))
def afn:aM:=⟨[.rd true nJ,.rd false [.d]],(.one false iM)⟩
def afo:aL:=aG []
def QE (n:Nat):eD × Int->Option ((List aR) × Unit):=aI n afo afm [bK,[.i .i64]] [.sl [.i .i64,.i .i64]] [] [4] .no
def GQ:=QE BIG
def QG:TSp:=⟨afn,[bK,[.i .i64]],[.sl [.i .i64,.i .i64]],[],Ou.j .no,GQ⟩
theorem auk:zK afo 199 afn afm 33 .no [4]:=by show _=_;kernel_rfl
theorem aaK:QG.Ok PG 199:=aQ (az PG) auk (by kernel_rfl)
theorem aul (n) (a0) (a1):QE n (a0,a1) = (aK n (X:=(List aR) × Int) (B:=(List aR)) (fun self1 x0=> bif decide (x0.2<(a0.2.length:Int)) then (bnd a0.2.length x0.2 fun n2=> a0.2[n2]?.bind fun y3=> (bif y3.2.2.2 then some (decide (a1<=y3.2.2.1)) else some false).bind fun x4=> bif x4 then bif decide (x0.1.length+([(y3.1,y3.2.1)]).length<=4294967296) then some (x0.1++([(y3.1,y3.2.1)])) else none else some x0.1:Option ((List aR))).bind fun x5=> self1 (x5,IntKind.wrap .i64 (x0.2+1)) else some x0.1) ([],(0:Int))).bind fun x6=> some (x6,()):=by kernel_rfl
def Vs:TC:=
 (zS [dN 2 0,yF 4] (zS [iV 8 2 0 8,YR 10 177 9 5] (zQ (.join [⟨5,[.sl [.i .i64]],false⟩] 67106976 none (zS [dP 11 2 2,au 12 1,jO 13 199 11 12,sw 14 13] (.block 0 (.loop [⟨5,[.sl [.i .i64]],false⟩,⟨15,[.i .i64],false⟩] 67076256 (zS [gH 16 15 14] (zQ (zC 16 .skip (.exit 0)) (zQ (.block 1 (zS [kW 17 13 15 2 2,rC 7 1000000008,eB 7 7 18] (zR [gp 19 5,pG 20 7 0 7 1,zIE 19 21 23 5 19 24 5 19 24]))) (zR [mV 25 15])))))))) (zS [t_ 5 26 5 4] .ret))))
def Vt:aM:=⟨[.rd true nJ,.rd false [.d]],(.one false fG)⟩
def Vu:aL:=aG [(177,EB),(199,QG),(188,L6)]
def I7 (n:Nat):eD × Int->Option ((List Int) × Unit):=aI n Vu Vs [bK,[.i .i64]] [.sl [.i .i64]] [] [4] .no
def oC:=I7 BIG
def qI:TSp:=⟨Vt,[bK,[.i .i64]],[.sl [.i .i64]],[],Ou.j .no,oC⟩
theorem al3:zK Vu 154 Vt Vs 27 .no [4]:=by show _=_;kernel_rfl
theorem sG:qI.Ok PG 154:=aQ (af GI (af aaK (af Qg (az PG)))) al3 (by kernel_rfl)
theorem al4 (n) (a0) (a1):I7 n (a0,a1) = (zF a0.1).bind fun r0=> ((GQ (a0,a1)).bind fun r1=> aK n (X:=(List Int) × Int) (B:=(List Int)) (fun self3 x2=> bif decide (x2.2<(r1.1.length:Int)) then bnd r1.1.length x2.2 fun n4=> r1.1[n4]?.bind fun y5=> (zI (x2.1,y5.1,y5.2)).bind fun r6=> self3 (r6.2,IntKind.wrap .i64 (x2.2+1)) else some x2.1) (r0.1,(0:Int))).bind fun x7=> some (x7,()):=by kernel_rfl
def ajb:TC:=
 (zS [bO 4] (zS [bO 5] (zQ (.join [⟨5,[.i .i64],false⟩] 1048480 none (zS [au 8 0,sw 9 8] (.block 0 (.loop [⟨5,[.i .i64],false⟩,⟨10,[.i .i64],false⟩] 1047712 (zS [gH 11 10 9] (zQ (zC 11 .skip (.exit 0)) (zQ (.join [⟨5,[.i .i64],false⟩] 520352 none (.block 1 (zS [JI 12 8 10 8 1,au 7 13] (zS [dz 14 7 1,pE 16 14 15] (zC 16 (zR [ig 17 5 5]) .skip))))) (zR [mV 19 10])))))))) (zS [M_ 20 5 4] .ret))))
def ajc:aM:=⟨[.rd false fG,.rd false [.d]],(.one false [.d])⟩
def ajd:aL:=aG []
def Xq (n:Nat):List Int × Int->Option ((Int) × Unit):=aI n ajd ajb [[.sl [.i .i64]],[.i .i64]] [.i .i64] [] [4] .no
def EZ:=Xq BIG
def Xr:TSp:=⟨ajc,[[.sl [.i .i64]],[.i .i64]],[.i .i64],[],Ou.j .no,EZ⟩
theorem awK:zK ajd 197 ajc ajb 21 .no [4]:=by show _=_;kernel_rfl
theorem afp:Xr.Ok PG 197:=aQ (az PG) awK (by kernel_rfl)
theorem awL (n) (a0) (a1):Xq n (a0,a1) = (aK n (X:=Int × Int) (B:=Int) (fun self1 x0=> bif decide (x0.2<(a0.length:Int)) then (bnd a0.length x0.2 fun n2=> a0[n2]?.bind fun y3=> bif decide (y3=a1) then some (IntKind.wrap .i64 (x0.1+1)) else some x0.1).bind fun x4=> self1 (x4,IntKind.wrap .i64 (x0.2+1)) else some x0.1) ((0:Int),(0:Int))).bind fun x5=> some (x5,()):=by kernel_rfl
end
end Go.Fw
