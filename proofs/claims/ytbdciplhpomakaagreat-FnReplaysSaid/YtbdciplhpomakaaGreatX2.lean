/- The given functions, as what they compute; each is shown to be what the code does. No conditions. -/
import Derived.Test.YtbdciplhpomakaaGreatX1
set_option linter.unusedSectionVars false
namespace Go.Fw
noncomputable section
def ais:TC:=
 (zS [kP 1 0] (zQ (.seq (.join [⟨20,[.b],false⟩] 2097024 none (zR [iP 7 1 1 7,l9 9 8,bO 10 1 0,wY 12 9 11,MO 13 12 6 1 0 6,yB 16 6 1 2 6,yx 144 15 17 18 18 6,tN 19 18 6 13])) (zC 20 (zS [bz 2] .ret) .skip)) (zQ (.join [] 34357641236 (some [⟨2,[.b],false⟩]) (zS [bO 21 1 1,rX 23 22] (.block 0 (.loop [⟨24,[.i .i64],false⟩] 34342961172 (zS [gy 25 24 23] (zQ (zC 25 .skip (.exit 0)) (zQ (.block 1 (zS [nz 26 22 24 1,au 4 27] (zS [SN 28 4 1 3,l9 31 30,zEt 32 48 28 1 31,jN 33 32] (zC 33 (zS [bz 2] .ret) .skip)))) (zR [mM 34 24])))))))) (zQ (.join [] 72057559678189636 (some [⟨2,[.b],false⟩]) (zS [bO 35 1 2,rX 37 36] (.block 2 (.loop [⟨38,[.i .i64],false⟩] 72057319160021060 (zS [gy 39 38 37] (zQ (zC 39 .skip (.exit 2)) (zQ (.block 3 (zS [kN 40 36 38 2 2,qX 6 1000000007,dR 6 6 41] (zS [o9 42 1 1 6 0,nz 46 43 45 1,o9 48 1 1 6 1,nz 52 49 51 1,o8 54 47 53] (zC 54 (zS [bz 2] .ret) .skip)))) (zR [mM 55 38])))))))) (zS [gX 2] .ret)))))
def ait:aL:=⟨[.rd true oV],(.one false [.d])⟩
def aiu:aK:=aD [(144,xH),(48,kX)]
def WH (n:Nat):eH->Option ((Bool) × Unit):=aH n aiu ais [bC] [.b] [] [2] .no
def WI:=WH BIG
def aiv:TSp:=⟨ait,[bC],[.b],[],Ou.j .no,WI⟩
theorem av6:zK aiu 60 ait ais 56 .no [2]:=by show _=_;kernel_rfl
theorem atr:aiv.Ok PG 60:=aO (ae Ai (ae jQ (ay PG))) av6 (by kernel_rfl)
theorem av7 (n) (a0):WH n a0 =
 (bif !decide ((a0.2.1.length:Int)=a0.1) then
  some true
  else (tC (a0.1,a0.2.2.1)).bind fun r0=>
  some !r0.1).bind fun x1=>
 bif x1 then
  some (false,())
 else (aJ n (X:=Int) (B:=(Unit) ⊕ (Bool)) (fun self3 x2=>
  bif decide (x2<(a0.2.1.length:Int)) then
   bnd a0.2.1.length x2 fun n4=>
   a0.2.1[n4]?.bind fun y5=>
   (fq (y5,(1:Int),(a0.2.2.2.1.length:Int))).bind fun r6=>
   bif !r6.1 then
    some (Sum.inr false)
   else self3 (IntKind.wrap .i64 (x2+1))
  else some (Sum.inl ())) (0:Int)).bind fun y=>match y with
 | .inl x7=>
  (aJ n (X:=Int) (B:=(Unit) ⊕ (Bool)) (fun self9 x8=>
   bif decide (x8<(a0.2.2.1.length:Int)) then
    bnd a0.2.2.1.length x8 fun n10=>
    a0.2.2.1[n10]?.bind fun y11=>
    bnd a0.2.1.length y11.1 fun n12=>
    a0.2.1[n12]?.bind fun y13=>
    bnd a0.2.1.length y11.2 fun n14=>
    a0.2.1[n14]?.bind fun y15=>
    bif decide (y13=y15) then
     some (Sum.inr false)
    else self9 (IntKind.wrap .i64 (x8+1))
   else some (Sum.inl ())) (0:Int)).bind fun y=>match y with
  | .inl x16=>
   some (true,())
  | .inr x16=>
   some (x16,())
 | .inr x7=>
  some (x7,()):=by kernel_rfl
def aev:TC:=
 (zS [bK 4] (zQ (.join [] 1048560 (some [⟨4,[.i .i64],false⟩]) (zS [au 7 0,rX 8 7] (.block 0 (.loop [⟨9,[.i .i64],false⟩] 1048176 (zS [gy 10 9 8] (zQ (zC 10 .skip (.exit 0)) (zQ (.block 1 (zS [au 11 9,Og 12 7 9 7 6 6,zEE 6 1000000007,au 5 11,dR 6 6 13] (zS [FW 14 6 0 1,o8 17 15 16] (zC 17 (zS [MQ 18 5 4] .ret) .skip)))) (zR [BK 19 9,au 9 19])))))))) (zS [zEj 4] .ret)))
def aew:aL:=⟨[.rd false Ct8,.rd false [.d]],(.one false [.d])⟩
def aex:aK:=aD []
def Px (n:Nat):(List ve) × Int->Option ((Int) × Unit):=aH n aex aev [N7,[.i .i64]] [.i .i64] [] [4] .no
def Bd:=Px BIG
def Gs:TSp:=⟨aew,[N7,[.i .i64]],[.i .i64],[],Ou.j .no,Bd⟩
theorem att:zK aex 49 aew aev 20 .no [4]:=by show _=_;kernel_rfl
theorem Lv:Gs.Ok PG 49:=aO (ay PG) att (by kernel_rfl)
theorem atu (n) (a0) (a1):Px n (a0,a1) = (aJ n (X:=Int) (B:=(Unit) ⊕ (Int)) (fun self1 x0=> bif decide (x0<(a0.length:Int)) then bnd a0.length x0 fun n2=> a0[n2]?.bind fun y3=> bif decide (y3.1=a1) then some (Sum.inr x0) else self1 (IntKind.wrap .i64 (x0+1)) else some (Sum.inl ())) (0:Int)).bind fun y=>match y with | .inl x4=> some ((-1:Int),()) | .inr x4=> some (x4,()):=by kernel_rfl
def aey:TC:=
 (zS [bz 2] (zQ (.join [] 17179869180 (some [⟨2,[.b],false⟩]) (zS [au 5 0,rX 6 5] (.block 0 (.loop [⟨7,[.i .i64],false⟩] 17179869084 (zS [gy 8 7 6] (zQ (zC 8 .skip (.exit 0)) (zQ (.join [] 8589934108 (some [⟨2,[.b],false⟩]) (.block 1 (zS [au 9 7,Og 10 5 7 5 6 6,zEE 4 1000000005,au 3 9,dR 4 4 11] (zQ (.join [⟨32,[.b],false⟩] 8589930496 none (zR [bO 12 4 0,Yx 14 4 1,wY 17 13 16,MO 18 17 6 4 5 6,Yz 48 20 3 21 21 6 6 18,jH 25 0 12,jH 26 3 12,[o2 27 (.res 25 none (some (.t 26))) 12 false],BQ 28 12 4 0,yx 49 27 29 30 30 12,zGq 31 30 0 12,qU 24 31 32])) (zC 32 (zS [bz 2] .ret) .skip))))) (zR [BK 33 7,au 7 33])))))))) (zS [au 34 0,l9 35 34,zAy 36 35 80,au 2 36] .ret)))
def aez:aL:=⟨[.rd false Ct8],(.one false [.d])⟩
def aeA:aK:=aD [(48,kX),(49,Gs)]
def Py (n:Nat):(List ve)->Option ((Bool) × Unit):=aH n aeA aey [N7] [.b] [] [2] .no
def Pz:=Py BIG
def aeB:TSp:=⟨aez,[N7],[.b],[],Ou.j .no,Pz⟩
theorem atv:zK aeA 61 aez aey 37 .no [2]:=by show _=_;kernel_rfl
theorem ap9:aeB.Ok PG 61:=aO (ae jQ (ae Lv (ay PG))) atv (by kernel_rfl)
theorem atw (n) (a0):Py n a0 =
 (aJ n (X:=Int) (B:=(Unit) ⊕ (Bool)) (fun self1 x0=>
  bif decide (x0<(a0.length:Int)) then
   (bnd a0.length x0 fun n2=>
    a0[n2]?.bind fun y3=>
    (bif !decide (y3.1=y3.2.1) then
     some true
     else (fq (y3.2.2.2.2.2,(1:Int),(3:Int))).bind fun r4=>
     bif !r4.1 then
      some true
     else bif decide (0<=x0) then
      bif decide (0<=(Int.toNat x0)/\(Int.toNat x0)<=a0.length) then
       (Bd (List.take ((Int.toNat x0)-0) (List.drop 0 a0),y3.1)).bind fun r5=>
       some (decide (0<=r5.1))
      else none
     else none).bind fun x6=>
    bif x6 then
     some (Sum.inr false)
    else some (Sum.inl ()):Option ((Unit) ⊕ (Bool))).bind fun y=>match y with
   | .inl x7=>
    self1 (IntKind.wrap .i64 (x0+1))
   | .inr x7=>
    some (Sum.inr x7)
  else some (Sum.inl ())) (0:Int)).bind fun y=>match y with
 | .inl x8=>
  some (decide ((a0.length:Int)<=80),())
 | .inr x8=>
  some (x8,()):=by kernel_rfl
def aeC:TC:=
 (zS [kP 1 0] (zS [jq 4,Jp 5 1 5 4 4,zDp 3 1000000004,dR 3 3 5] (zQ (.join [⟨2,[.b],false⟩] 68719476676 none (zR [jq 6,Jp 7 1 0 6 4,[o1 8 (.build fO [])],zEn 9 7 8,ut 10 9 4 1 4 4,Oc 13 12 4,lC 10 13 14,vV 16 9 3 0 9,Oc 18 17 9,lC 15 18 19,AU 21 14 3 1,Oc 23 22 14,lC 20 23 24,AU 26 19 3 2,zHh 28 27 19,Oc 29 28 19,lC 25 29 30,AU 32 25 3 3,Oc 34 33 25,nA 31 34 35 2])) .ret)))
def aeD:aL:=⟨[.rd true Ct6],(.one false [.d])⟩
def aeE:aK:=aD []
def PD (n:Nat):apf->Option ((Bool) × Unit):=aH n aeE aeC [DD] [.b] [] [2] .no
def PE:=PD BIG
def aeF:TSp:=⟨aeD,[DD],[.b],[],Ou.j .no,PE⟩
theorem atx:zK aeE 145 aeD aeC 36 .no [2]:=by show _=_;kernel_rfl
theorem ap_:aeF.Ok PG 145:=aO (ay PG) atx (by kernel_rfl)
theorem aty (n) (a0):PD n a0 = (bif (decide (a0.1=0)&&(decide (a0.2.1=0)&&(decide (a0.2.2.1=0)&&(decide (a0.2.2.2.1=0)&&true)))) then bif decide (a0.2.2.2.2.1=0) then bif decide (a0.2.2.2.2.2.1=0) then bif decide (a0.2.2.2.2.2.2.1=0) then bif decide ((a0.2.2.2.2.2.2.2.1.length:Int)=0) then some (decide (a0.2.2.2.2.2.2.2.2=0)) else some false else some false else some false else some false else some false).bind fun x0=> some (x0,()):=by kernel_rfl
def aeG:TC:=
 (zS [dK 2 0,kP 3 1] (zS [iP 7 2 0 7,yz 9 8,au 5 9] (zS [bK 6] (zQ (.join [⟨6,[.i .i64],false⟩,⟨5,[.i .i64],false⟩] 64608 none (zS [bO 10 3 1,wX 12 11 4] (zC 12 (zR [YA 13 2 3,nU 6 1,au 5 15]) .skip))) (zQ (.seq (.join [⟨36,[.b],false⟩] 137438887936 none (zR [bO 16 3 1,oZ 18 48 17 4,FX 19 18 4 3 2 4,yB 23 4 2 0 4,zEr 25 24 4,zEs 48 22 0 25 26 26 4,DN 27 26 4 20,BQ 30 13 3 3,jH 32 6 13,jH 33 5 13,[⟨false,[],[],.call 1 48 [.t 31,.t 32,.t 33] .no,[34],(some 34),some (13,false)⟩],tN 35 34 13 29])) (zC 36 (zS [gX 4] .ret) .skip)) (zQ (.join [⟨4,[.b],false⟩] 4503462188417040 none (zR [o9 37 3 2 3 3,o8 41 38 40,ut 42 41 5 3 1 5,zIs 45 44 1 5,iE 46 45 5,yB 47 9 3 1 9,[o2 49 (.data (.bin .eql) [.t 48,kD 2]) 9 false,⟨false,[],[],.pick 46 (.c (.bool true)) (.t 49),[50],(some 50),some (5,true)⟩],nA 42 50 51 4])) .ret))))))
def aeH:aL:=⟨[.rd true oV,.rd true [.d,.d,.d,.d]],(.one false [.d])⟩
def aeI:aK:=aD [(48,kX)]
def PH (n:Nat):eH × qG->Option ((Bool) × Unit):=aH n aeI aeG [bC,fO] [.b] [] [4] .no
def Gt:=PH BIG
def PI:TSp:=⟨aeH,[bC,fO],[.b],[],Ou.j .no,Gt⟩
theorem atz:zK aeI 134 aeH aeG 52 .no [4]:=by show _=_;kernel_rfl
theorem Z_:PI.Ok PG 134:=aO (ae jQ (ay PG)) atz (by kernel_rfl)
theorem atA (n) (a0) (a1):PH n (a0,a1) = (bif decide (a1.2.1=4) then some ((1:Int),(a0.2.2.2.1.length:Int)) else some ((0:Int),IntKind.wrap .i64 (a0.1-1)):Option aP).bind fun x0=> ((fq (a1.2.1,(1:Int),(4:Int))).bind fun r1=> bif !r1.1 then some true else (fq (a1.2.2.1,(0:Int),IntKind.wrap .i64 (a0.1-1))).bind fun r2=> bif !r2.1 then some true else (fq (a1.2.2.2,x0.1,x0.2)).bind fun r3=> some !r3.1).bind fun x4=> bif x4 then some (true,()) else (bif decide (a1.2.2.1=a1.2.2.2) then bif decide (a1.2.1=1) then some true else some (decide (a1.2.1=2)) else some false).bind fun x5=> some (x5,()):=by kernel_rfl
def aaa:TC:=
 (zS [kP 3 1] (zQ (.seq (.join [⟨30,[.b],false⟩] 2147483616 none (zR [au 5 0,oZ 6 48 5 12,jN 7 6,au 8 7,rW 9 3,BM 10 3 0 9 3,Yz 48 10 100000 11 11 3 3 8,jH 15 0 9,yB 16 9 3 2 9,yx 144 15 17 18 18 9,DN 19 18 9 14,BQ 22 16 3 3,zID 24 23 16,jH 25 24 16,AU 26 20 3 1,[o2 28 (.data (.bin .neq) [.t 27,kD 3]) 20 true],FP 25 28 29 29 16 21])) (zC 30 (zS [bz 4] .ret) .skip)) (zQ (.join [] 576460750155939856 (some [⟨4,[.b],false⟩]) (zS [bO 31 3 1] (.block 0 (zQ (.join [⟨33,[.b],false⟩] 60129542144 none (zS [Td 34 32 1] (zC 33 .skip (zR [Td 35 32 2])))) (zC 33 (zS [YA 36 3 2,yF 39 38 1 4] .ret) (zS [yF 41 32 3 40] (zC 40 (zQ (.join [⟨4,[.b],false⟩] 9002801208229904 none (zR [YA 42 3 2,wX 45 44 0,ut 46 45 4 3 3 4,iE 49 0 4,zMr 50 49 4 48 48 4,nA 46 51 52 4])) .ret) (zS [yF 54 32 4 53] (zC 53 (zS [YA 55 3 2,Yn 58 57 0,au 4 58] .ret) .skip))))))))) (zS [bz 4] .ret))))
def aab:aL:=⟨[.rd false [.d],.rd true N_],(.one false [.d])⟩
def aac:aK:=aD [(48,kX),(144,xH)]
def Lx (n:Nat):Int × DT->Option ((Bool) × Unit):=aH n aac aaa [[.i .i64],kw] [.b] [] [4] .no
def CL:=Lx BIG
def LA:TSp:=⟨aab,[[.i .i64],kw],[.b],[],Ou.j .no,CL⟩
theorem aqa:zK aac 64 aab aaa 59 .no [4]:=by show _=_;kernel_rfl
theorem Uw:LA.Ok PG 64:=aO (ae jQ (ae Ai (ay PG))) aqa (by kernel_rfl)
theorem aqb (n) (a0) (a1):Lx n (a0,a1) = ((fq (a0,(1:Int),(12:Int))).bind fun r0=> bif !r0.1 then some true else (fq (a1.1,(1:Int),(100000:Int))).bind fun r1=> bif !r1.1 then some true else (tC (a0,a1.2.2.1)).bind fun r2=> bif !r2.1 then some true else bif !decide (a1.2.2.2=0) then some (!decide (a1.2.1=3)) else some false).bind fun x3=> bif x3 then some (false,()) else ((bif decide (a1.2.1=1) then some true else some (decide (a1.2.1=2))).bind fun x4=> bif x4 then some (Sum.inr (decide ((a1.2.2.1.length:Int)=1))) else bif decide (a1.2.1=3) then (bif decide ((a1.2.2.1.length:Int)=0) then (fq (a1.2.2.2,(0:Int),IntKind.wrap .i64 (a0-1))).bind fun r5=> some r5.1 else some false).bind fun x6=> some (Sum.inr x6) else bif decide (a1.2.1=4) then some (Sum.inr (decide (0<(a1.2.2.1.length:Int)))) else some (Sum.inl ())).bind fun y=>match y with | .inl x7=> some (false,()) | .inr x7=> some (x7,()):=by kernel_rfl
def aeJ:TC:=
 (zS [kP 1 0] (zS [jq 5,Jp 6 1 5 5 9,zEw 3 1000000004,dR 3 3 6] (zQ (zS [dM 7 3 9,gz 8 145 7] (zC 8 (zS [gX 2] .ret) .skip)) (zS [jq 9,Jp 10 3 0 9 4,zDk 4 1000000005,dR 4 4 10] (zQ (.seq (.join [⟨24,[.b],false⟩] 33552384 none (zR [bO 11 4 0,oZ 13 48 12 100000,FX 14 13 4 4 1 4,[o2 18 (.data (.bin .eql) [.t 17,kD 3]) 4 false],qU 15 18 19,au 20 19,BP 21 1 15 9,S_ 22 4 4 9 134 21 9,qU 20 23 24])) (zC 24 (zS [bz 2] .ret) .skip)) (zQ (.join [⟨2,[.b],false⟩] 1152921504573292548 none (zR [o9 25 3 4 1 3,l9 29 28,zEt 30 48 26 1 29,ut 31 30 6 1 0 6,qV 34 6,zEp 35 3 5 34 4 6,qa 64 33 35 36 36 6,lC 31 36 37,Yu 39 13 3 5,Oi 42 13 1 4 3 4,zDv 46 45 13,qW 47 43 46 13,BN 48 43 1 47 13,zEz 49 48 13,DK 50 41 49 13,lC 38 50 51,Oi 53 27 1 14 4 0,qa 49 54 56 57 57 27,zAi 58 57 0 27,nA 52 58 59 2])) .ret))))))
def aeK:aL:=⟨[.rd true oV],(.one false [.d])⟩
def aeL:aK:=aD [(145,aeF),(48,kX),(134,PI),(64,LA),(49,Gs)]
def PL (n:Nat):eH->Option ((Bool) × Unit):=aH n aeL aeJ [bC] [.b] [] [2] .no
def PN:=PL BIG
def aeM:TSp:=⟨aeK,[bC],[.b],[],Ou.j .no,PN⟩
theorem atB:zK aeL 62 aeK aeJ 60 .no [2]:=by show _=_;kernel_rfl
theorem aqc:aeM.Ok PG 62:=aO (ae ap_ (ae jQ (ae Z_ (ae Uw (ae Lv (ay PG)))))) atB (by kernel_rfl)
theorem atC (n) (a0):PL n a0 = (PE (a0.2.2.2.2.2.1,a0.2.2.2.2.2.2.1,a0.2.2.2.2.2.2.2.1,a0.2.2.2.2.2.2.2.2.1,a0.2.2.2.2.2.2.2.2.2.1,a0.2.2.2.2.2.2.2.2.2.2.1,a0.2.2.2.2.2.2.2.2.2.2.2.1,a0.2.2.2.2.2.2.2.2.2.2.2.2.1,a0.2.2.2.2.2.2.2.2.2.2.2.2.2.1)).bind fun r0=> bif r0.1 then some (true,()) else ((fq (a0.2.2.2.2.2.1,(1:Int),(100000:Int))).bind fun r1=> bif !r1.1 then some true else bif decide (a0.2.2.2.2.2.2.1=3) then some true else (Gt (a0,(a0.2.2.2.2.2.1,a0.2.2.2.2.2.2.1,a0.2.2.2.2.2.2.2.1,a0.2.2.2.2.2.2.2.2.1))).bind fun r2=> some r2.1).bind fun x3=> bif x3 then some (false,()) else ((fq (a0.2.2.2.2.2.2.2.2.2.1,(1:Int),(a0.2.2.2.1.length:Int))).bind fun r4=> bif r4.1 then (CL (a0.1,(a0.2.2.2.2.2.2.2.2.2.2.1,a0.2.2.2.2.2.2.2.2.2.2.2.1,a0.2.2.2.2.2.2.2.2.2.2.2.2.1,a0.2.2.2.2.2.2.2.2.2.2.2.2.2.1))).bind fun r5=> bif r5.1 then bnd a0.2.2.2.2.1.length (IntKind.wrap .i64 (a0.2.2.2.2.2.2.2.2.2.1-1)) fun n6=> a0.2.2.2.2.1[n6]?.bind fun y7=> bif decide (a0.2.2.2.2.2.2.2.2.2.2.1=(IntKind.wrap .i64 (y7+1))) then (Bd (a0.2.2.2.2.2.2.2.2.2.2.2.2.2.2,a0.2.2.2.2.2.1)).bind fun r8=> some (decide (r8.1<0)) else some false else some false else some false).bind fun x9=> some (x9,()):=by kernel_rfl
def aeN:TC:=
 (zS [kP 1 0] (zQ (.seq (.join [⟨24,[.b],false⟩] 33554400 none (zR [iP 5 1 0 5,oZ 7 48 6 12,jN 8 7,MO 9 8 4 1 3 4,Jr 12 11 4,Yz 48 12 3 13 13 4 4 9,zLB 17 11 1 4,zLB 20 11 1 3,Jt 23 19 22 11 16])) (zC 24 (zS [bz 2] .ret) .skip)) (zQ (.join [] 281474943156252 (some [⟨2,[.b],false⟩]) (zS [bO 25 1 3,rX 27 26] (.block 0 (.loop [⟨28,[.i .i64],false⟩] 281474708275228 (zS [gy 29 28 27] (zQ (zC 29 .skip (.exit 0)) (zQ (.join [] 140736414613532 (some [⟨2,[.b],false⟩]) (.block 1 (zS [au 30 28,nz 31 26 28 1,au 3 30,au 4 32] (zQ (.join [⟨46,[.b],false⟩] 140728898420736 none (zR [FW 33 1 0 4,jI 36 59 34 35,FX 37 36 5 1 4 5,Yw 41 3 5 40 5,Yr 43 40 1 42 5,zED 48 43 0 99991 44 44 5,tN 45 44 5 38])) (zC 46 (zS [bz 2] .ret) .skip))))) (zR [mM 47 28])))))))) (zQ (.join [⟨2,[.b],false⟩] 576179277326712836 none (zR [AZ 48 1 15 60,ut 50 49 2 1 14 2,zHi 61 52 53 53 2,lC 50 53 54,zEA 56 1 15 7,zHi 62 56 57 57 7,nA 55 57 58 2])) .ret))))
def aeO:aL:=⟨[.rd true oV],(.one false [.d])⟩
def aeP:aK:=aD [(48,kX),(59,Iu),(60,aiv),(61,aeB),(62,aeM)]
def PP (n:Nat):eH->Option ((Bool) × Unit):=aH n aeP aeN [bC] [.b] [] [2] .no
def v_:=PP BIG
def Gu:TSp:=⟨aeO,[bC],[.b],[],Ou.j .no,v_⟩
theorem atD:zK aeP 12 aeO aeN 59 .no [2]:=by show _=_;kernel_rfl
theorem LB:Gu.Ok PG 12:=aO (ae jQ (ae Ps (ae atr (ae ap9 (ae aqc (ay PG)))))) atD (by kernel_rfl)
theorem atF (n) (a0):PP n a0 =
 ((fq (a0.1,(1:Int),(12:Int))).bind fun r0=>
  bif !r0.1 then
   some true
  else (fq ((a0.2.2.2.1.length:Int),(1:Int),(3:Int))).bind fun r1=>
  bif !r1.1 then
   some true
  else some (!decide ((a0.2.2.2.2.1.length:Int)=(a0.2.2.2.1.length:Int)))).bind fun x2=>
 bif x2 then
  some (false,())
 else (aJ n (X:=Int) (B:=(Unit) ⊕ (Bool)) (fun self4 x3=>
  bif decide (x3<(a0.2.2.2.1.length:Int)) then
   (bnd a0.2.2.2.1.length x3 fun n5=>
    a0.2.2.2.1[n5]?.bind fun y6=>
    ((Ah (a0.1,y6)).bind fun r7=>
     bif !r7.1 then
      some true
     else bnd a0.2.2.2.2.1.length x3 fun n8=>
     a0.2.2.2.2.1[n8]?.bind fun y9=>
     (fq (y9,(0:Int),(99991:Int))).bind fun r10=>
     some !r10.1).bind fun x11=>
    bif x11 then
     some (Sum.inr false)
    else some (Sum.inl ())).bind fun y=>match y with
   | .inl x12=>
    self4 (IntKind.wrap .i64 (x3+1))
   | .inr x12=>
    some (Sum.inr x12)
  else some (Sum.inl ())) (0:Int)).bind fun y=>match y with
 | .inl x13=>
  ((WI a0).bind fun r14=>
   bif r14.1 then
    (Pz a0.2.2.2.2.2.2.2.2.2.2.2.2.2.2).bind fun r15=>
    bif r15.1 then
     (PN a0).bind fun r16=>
     some r16.1
    else some false
   else some false).bind fun x17=>
  some (x17,())
 | .inr x13=>
  some (x13,()):=by kernel_rfl
def ano:TC:=
 (zS [kP 1 0] (zS [jq 3,Jn 4 3,Ob 5 1 9 4,zDi 6 5 0,au 2 6] .ret))
def anp:aL:=⟨[.rd true oV],(.one false [.d])⟩
def anq:aK:=aD []
def anr (n:Nat):eH->Option ((Bool) × Unit):=aH n anq ano [bC] [.b] [] [2] .no
def R7:=anr BIG
def ack:TSp:=⟨anp,[bC],[.b],[],Ou.j .no,R7⟩
theorem azo:zK anq 13 anp ano 7 .no [2]:=by show _=_;kernel_rfl
theorem aiw:ack.Ok PG 13:=aO (ay PG) azo (by kernel_rfl)
theorem azp (n) (a0):anr n a0 = some (!decide (a0.2.2.2.2.2.2.2.2.2.1=0),()):=by kernel_rfl
def Ux:TC:=
 (zS [dK 4 1,bK 6] (zS [dA 7,dA 8,au 15 2,rV 9 8,Jn 10 9,zGb 11 14 10,bO 12 4 0,dM 14 4 4,zGc 16 13 14 15,zGd 17 16,zBt 11 11 17 18 11 11 0 18,ny 19 7,zBu 0 18 11 0 14 20 18] (zS [nU 6 1] .ret)))
def Uy:aL:=⟨[.mp oV,.rd true [.d,.d,.d,.d],.rd false [.d]],(.one false [.d])⟩
def Uz:aK:=aD []
def Iw (n:Nat):eH × qG × Int->Option ((Int) × Int × List Int × List aP × List (List Int) × List Int × Int × Int × Int × Int × Int × Int × Int × List aP × Int × List ve):=aH n Uz Ux [bC,fO,[.i .i64]] [.i .i64] bC [6] (.mp 0)
def ic:=Iw BIG
def uy:TSp:=⟨Uy,[bC,fO,[.i .i64]],[.i .i64],bC,Ou.j (.mp 0),ic⟩
theorem alj:zK Uz 73 Uy Ux 21 (.mp 0) [6]:=by show _=_;kernel_rfl
theorem xI:uy.Ok PG 73:=aO (ay PG) alj (by kernel_rfl)
theorem alk (n) (a0) (a1) (a2):Iw n (a0,a1,a2) = bif decide (a0.2.2.2.2.2.2.2.2.2.2.2.2.2.2.length+([(a1.1,a1.1,a1.2.1,a1.2.2.1,a1.2.2.2,a2)]).length<=4294967296) then some ((1:Int),(a0.1,a0.2.1,a0.2.2.1,a0.2.2.2.1,a0.2.2.2.2.1,a0.2.2.2.2.2.1,a0.2.2.2.2.2.2.1,a0.2.2.2.2.2.2.2.1,a0.2.2.2.2.2.2.2.2.1,a0.2.2.2.2.2.2.2.2.2.1,a0.2.2.2.2.2.2.2.2.2.2.1,a0.2.2.2.2.2.2.2.2.2.2.2.1,a0.2.2.2.2.2.2.2.2.2.2.2.2.1,a0.2.2.2.2.2.2.2.2.2.2.2.2.2.1,a0.2.2.2.2.2.2.2.2.2.2.2.2.2.2++([(a1.1,a1.1,a1.2.1,a1.2.2.1,a1.2.2.2,a2)]))) else none:=by kernel_rfl
def WJ:TC:=
 (zS [bz 6] (zS [FV 10 0 1,FV 14 0 2,Js 12 10 11 0 1,Js 16 14 15 0 1,df 7 13 17] (zQ (zS [df 18 7 8,o8 20 18 19] (zC 20 (zS [bz 6] .ret) .skip)) (zQ (.join [⟨0,[.sl [.i .i64]],false⟩] 2199021158913 none (zS [gN 21 0,rX 22 21] (.block 0 (.loop [⟨0,[.sl [.i .i64]],false⟩,⟨23,[.i .i64],false⟩] 2199016982017 (zS [gy 24 23 22] (zQ (zC 24 .skip (.exit 0)) (zQ (.join [⟨0,[.sl [.i .i64]],false⟩] 1099478073857 none (.block 1 (zS [MQ 25 23 9] (zS [FV 26 0 9,Js 28 26 27 0 1,df 30 7 8,[o1 32 (.data .max [.t 30,.t 31])],o8 33 29 32] (zC 33 (zR [gN 34 0,df 35 9 7,au 37 8,[o1 38 (.data .min [.t 36,.t 37])],wW 39 34 35,[o4 1 [0,26,34] (.store 0 [(0,1)] 0 (.t 39) (.t 38))]]) .skip))))) (zR [mM 40 23])))))))) (zS [gX 6] .ret)))))
def aix:aL:=⟨[.mt false fF,.rd false [.d],.rd false [.d]],(.one false [.d])⟩
def WK:aK:=aD []
def WL (n:Nat):List Int × Int × Int->Option ((Bool) × List Int):=aH n WK WJ [[.sl [.i .i64]],[.i .i64],[.i .i64]] [.b] [.sl [.i .i64]] [6] (.mt 0 0 0)
def zu:=WL BIG
def LC:TSp:=⟨aix,[[.sl [.i .i64]],[.i .i64],[.i .i64]],[.b],[.sl [.i .i64]],Ou.j (.mt 0 0 0),zu⟩
theorem av8:ahC PG WK 188 aix (WJ.ht 41) (.mt 0 0 0)=some (WJ.wc WK,[6]):=by kernel_rfl
theorem PQ:LC.Ok PG 188:=aO (ay PG) av8 (by kernel_rfl)
theorem av9 (n) (a0) (a1) (a2):WL n (a0,a1,a2) = bnd a0.length a1 fun n0=> a0[n0]?.bind fun y1=> bnd a0.length a2 fun n2=> a0[n2]?.bind fun y3=> bif decide (y1=y3) then some (false,a0) else (aJ n (X:=(List Int) × Int) (B:=(List Int)) (fun self5 x4=> bif decide (x4.2<(a0.length:Int)) then (bnd x4.1.length x4.2 fun n6=> x4.1[n6]?.bind fun y7=> bif decide (y7=(if y3 > y1 then y3 else y1)) then bnd x4.1.length x4.2 fun n8=> x4.1[n8]?.bind fun y9=> some (x4.1.set n8 (if y3<y1 then y3 else y1)) else some x4.1).bind fun x10=> self5 (x10,IntKind.wrap .i64 (x4.2+1)) else some x4.1) (a0,(0:Int))).bind fun x11=> some (true,x11):=by kernel_rfl
def JK:TC:=
 (zS [yu 6,bz 7] (zQ (.seq (.join [⟨22,[.b],false⟩] 8355840 none (zR [au 15 0,oZ 16 48 15 12,Jw 17 16 1 3,Jr 20 19 3,zDD 21 20 3 3,qU 18 21 22])) (zC 22 (zS [yu 6,bz 7] .ret) .skip)) (zS [au 23 0,Yy 24 177 23 8] (zQ (.join [⟨8,[.sl [.i .i64]],false⟩] 4503599593823680 (some [⟨6,[.sl [.i .i64]],false⟩,⟨7,[.b],false⟩]) (zS [MN 25 1] (.block 0 (.loop [⟨8,[.sl [.i .i64]],false⟩,⟨27,[.i .i64],false⟩] 4503599493160384 (zS [gy 28 27 26] (zQ (zC 28 .skip (.exit 0)) (zQ (.join [⟨8,[.sl [.i .i64]],false⟩] 2251799276821952 (some [⟨6,[.sl [.i .i64]],false⟩,⟨7,[.b],false⟩]) (.block 1 (zS [nz 29 25 27 1,au 10 30] (zQ (zS [au 31 10,l9 32 31,au 33 0,wY 34 32 33] (zC 34 (zS [yu 6,bz 7] .ret) .skip)) (zS [MN 35 10] (.block 2 (.loop [⟨8,[.sl [.i .i64]],false⟩,⟨37,[.i .i64],false⟩] 2251662374738368 (zS [gy 38 37 36] (zQ (zC 38 .skip (.exit 2)) (zQ (.block 3 (zS [au 39 37,nz 40 35 37 1,au 11 39,au 12 41] (zQ (zS [df 42 12 11,Yq 44 48 42 43,jN 45 44] (zC 45 (zS [yu 6,bz 7] .ret) .skip)) (zR [gN 46 8,df 47 12 11,zIE 46 47 48 8 46 49 8 46 49])))) (zR [mM 50 37]))))))))))) (zR [mM 51 27])))))))) (zQ (.join [⟨8,[.sl [.i .i64]],false⟩] 590291306759078298048 (some [⟨6,[.sl [.i .i64]],false⟩,⟨7,[.b],false⟩]) (zS [MN 52 2] (.block 4 (.loop [⟨8,[.sl [.i .i64]],false⟩,⟨54,[.i .i64],false⟩] 590277795960196186560 (zS [gy 55 54 53] (zQ (zC 55 .skip (.exit 4)) (zQ (.block 5 (zS [kN 56 52 54 2 2,qX 14 1000000015,dR 14 14 57] (zQ (zS [au 58 0,yC 59 14 2 189 58,jN 61 60] (zC 61 (zS [yu 6,bz 7] .ret) .skip)) (zR [gN 62 8,bO 63 14 0,bO 65 14 1,zIE 62 64 66 8 62 67 8 62 67])))) (zR [mM 68 54])))))))) (zS [tO 8 69 8 6,gX 7] .ret))))))
def JL:aL:=⟨[.rd false [.d],.rd false [.sl (.own none) fF],.rd false iG],(.tup [(false,1),(false,1)] apd)⟩
def JM:aK:=aD [(48,kX),(177,Em),(188,LC),(189,Gr)]
def zw (n:Nat):Int × List (List Int) × (List aP)->Option ((List Int × Bool) × Unit):=aH n JM JK [[.i .i64],[.sl [.sl [.i .i64]]],[.sl [.i .i64,.i .i64]]] [.sl [.i .i64],.b] [] [6,7] .no
def zx:=zw BIG
def JN:TSp:=⟨JL,[[.i .i64],[.sl [.sl [.i .i64]]],[.sl [.i .i64,.i .i64]]],[.sl [.i .i64],.b],[],Ou.j .no,zx⟩
theorem acl:zK JM 135 JL JK 70 .no [6,7]:=by show _=_;kernel_rfl
theorem aad:JN.Ok PG 135:=aO (ae jQ (ae Gq (ae PQ (ae Ls (ay PG))))) acl (by kernel_rfl)
theorem acm (n) (a0) (a1) (a2):zw n (a0,a1,a2) =
 ((fq (a0,(1:Int),(12:Int))).bind fun r0=>
  bif !r0.1 then
   some true
  else some (decide (3<(a1.length:Int)))).bind fun x1=>
 bif x1 then
  some (([],false),())
 else (zq a0).bind fun r2=>
 (aJ n (X:=(List Int) × Int) (B:=((List Int)) ⊕ ((List Int) × Bool)) (fun self4 x3=>
  bif decide (x3.2<(a1.length:Int)) then
   (bnd a1.length x3.2 fun n5=>
    a1[n5]?.bind fun y6=>
    bif !decide ((y6.length:Int)=a0) then
     some (Sum.inr ([],false))
    else aJ n (X:=(List Int) × Int) (B:=((List Int)) ⊕ ((List Int) × Bool)) (fun self8 x7=>
     bif decide (x7.2<(y6.length:Int)) then
      bnd y6.length x7.2 fun n9=>
      y6[n9]?.bind fun y10=>
      (fq (y10,(0:Int),x7.2)).bind fun r11=>
      bif !r11.1 then
       some (Sum.inr ([],false))
      else (zu (x7.1,y10,x7.2)).bind fun r12=>
      self8 (r12.2,IntKind.wrap .i64 (x7.2+1))
     else some (Sum.inl x7.1)) (x3.1,(0:Int)):Option (((List Int)) ⊕ ((List Int) × Bool))).bind fun y=>match y with
   | .inl x13=>
    self4 (x13,IntKind.wrap .i64 (x3.2+1))
   | .inr x13=>
    some (Sum.inr (x13.1,x13.2))
  else some (Sum.inl x3.1)) (r2.1,(0:Int))).bind fun y=>match y with
 | .inl x14=>
  (aJ n (X:=(List Int) × Int) (B:=((List Int)) ⊕ ((List Int) × Bool)) (fun self16 x15=>
   bif decide (x15.2<(a2.length:Int)) then
    bnd a2.length x15.2 fun n17=>
    a2[n17]?.bind fun y18=>
    (Bc (a0,y18)).bind fun r19=>
    bif !r19.1 then
     some (Sum.inr ([],false))
    else (zu (x15.1,y18.1,y18.2)).bind fun r20=>
    self16 (r20.2,IntKind.wrap .i64 (x15.2+1))
   else some (Sum.inl x15.1)) (x14,(0:Int))).bind fun y=>match y with
  | .inl x21=>
   some ((x21,true),())
  | .inr x21=>
   some (x21,())
 | .inr x14=>
  some (x14,()):=by kernel_rfl
def aiy:TC:=
 (zS [bK 2] (zQ (zS [au 3 0] (zC 3 (zS [nU 2 1] .ret) .skip)) (zS [nU 2 2] .ret)))
def aiz:aL:=⟨[.rd false [.d]],(.one false [.d])⟩
def aiA:aK:=aD []
def WM (n:Nat):Bool->Option ((Int) × Unit):=aH n aiA aiy [[.b]] [.i .i64] [] [2] .no
def LD:=WM BIG
def WN:TSp:=⟨aiz,[[.b]],[.i .i64],[],Ou.j .no,LD⟩
theorem av_:zK aiA 74 aiz aiy 4 .no [2]:=by show _=_;kernel_rfl
theorem aeQ:WN.Ok PG 74:=aO (ay PG) av_ (by kernel_rfl)
theorem awc (n) (a0):WM n a0 = bif a0 then some ((1:Int),()) else some ((2:Int),()):=by kernel_rfl
def M5:TC:=
 (zS [dK 5 1,[o5 (.a (.t 3)) 7 3],bK 8] (zS [dA 9,AY 10 9 4,au 13 2,yz 14 13,FR 15 12 14 0 4 1,BK 17 16,MP 18 7 7 0 17] (zS [yE 19 5 4,au 21 2,jf 22 7 4,zGj,ny 24 19,zGk] (zS [nU 8 2] .ret))))
def M6:aL:=⟨[.mp oV,.rd true [.d,.d,.d,.d],.rd false [.d],.tk true N_],(.one false [.d])⟩
def M7:aK:=aD []
def uN (n:Nat):eH × qG × Int × DT->Option ((Int) × Int × List Int × List aP × List (List Int) × List Int × Int × Int × Int × Int × Int × Int × Int × List aP × Int × List ve):=aH n M7 M5 [bC,fO,[.i .i64],kw] [.i .i64] bC [8] (.mp 0)
def lu:=uN BIG
def uO:TSp:=⟨M6,[bC,fO,[.i .i64],kw],[.i .i64],bC,Ou.j (.mp 0),lu⟩
theorem afM:zK M7 136 M6 M5 26 (.mp 0) [8]:=by show _=_;kernel_rfl
theorem zy:uO.Ok PG 136:=aO (ay PG) afM (by kernel_rfl)
theorem M8 (n) (a0) (a1) (a2) (a3):uN n (a0,a1,a2,a3) = bnd a0.2.2.2.2.1.length (IntKind.wrap .i64 (a2-1)) fun n0=> a0.2.2.2.2.1[n0]?.bind fun y1=> some ((2:Int),(a0.1,a0.2.1,a0.2.2.1,a0.2.2.2.1,a0.2.2.2.2.1,a1.1,a1.2.1,a1.2.2.1,a1.2.2.2,a2,IntKind.wrap .i64 (y1+1),a3.2.1,a3.2.2.1,a3.2.2.2,a0.2.2.2.2.2.2.2.2.2.2.2.2.2.2)):=by kernel_rfl
def aeR:TC:=
 (zS [dK 1 0,qX 2 1000000003] (zS [iP 3 1 2 3,iP 5 1 3 5,[o1 7 (.data .min [.t 4,.t 6])],iP 8 1 2 8,bO 10 1 3,[o1 12 (.data .max [.t 9,.t 11])],MK 13 7 12,dR 2 2 13] .ret))
def aeS:aL:=⟨[.rd true [.d,.d,.d,.d]],(.one true [.d,.d])⟩
def aeT:aK:=aD []
def PR (n:Nat):qG->Option (aP × Unit):=aH n aeT aeR [fO] [.i .i64,.i .i64] [] [2] .no
def PS:=PR BIG
def aeU:TSp:=⟨aeS,[fO],[.i .i64,.i .i64],[],Ou.j .no,PS⟩
theorem atG:zK aeT 190 aeS aeR 14 .no [2]:=by show _=_;kernel_rfl
theorem aqd:aeU.Ok PG 190:=aO (ay PG) atG (by kernel_rfl)
theorem atH (n) (a0):PR n a0 = some (((if a0.2.2.2<a0.2.2.1 then a0.2.2.2 else a0.2.2.1),(if a0.2.2.2 > a0.2.2.1 then a0.2.2.2 else a0.2.2.1)),()):=by kernel_rfl
def aae:TC:=
 (zS [kP 3 1] (zQ (.join [] 131024 (some [⟨4,[.b],false⟩]) (zS [au 7 0,rX 8 7] (.block 0 (.loop [⟨9,[.i .i64],false⟩] 130640 (zS [gy 10 9 8] (zQ (zC 10 .skip (.exit 0)) (zQ (.block 1 (zS [Og 11 7 9 7 2 2,qX 6 1000000007,dR 6 6 12] (zS [dM 13 6 2,dM 14 3 2,[o1 15 (.eqA [.i,.i] (.t 13) (.t 14) false)]] (zC 15 (zS [gX 4] .ret) .skip)))) (zR [BK 16 9,au 9 16])))))))) (zS [bz 4] .ret)))
def aaf:aL:=⟨[.rd false iG,.rd true [.d,.d]],(.one false [.d])⟩
def aag:aK:=aD []
def LF (n:Nat):(List aP) × aP->Option ((Bool) × Unit):=aH n aag aae [[.sl [.i .i64,.i .i64]],[.i .i64,.i .i64]] [.b] [] [4] .no
def xJ:=LF BIG
def CO:TSp:=⟨aaf,[[.sl [.i .i64,.i .i64]],[.i .i64,.i .i64]],[.b],[],Ou.j .no,xJ⟩
theorem aqe:zK aag 155 aaf aae 17 .no [4]:=by show _=_;kernel_rfl
theorem Iy:CO.Ok PG 155:=aO (ay PG) aqe (by kernel_rfl)
theorem aqf (n) (a0) (a1):LF n (a0,a1) = (aJ n (X:=Int) (B:=(Unit) ⊕ (Bool)) (fun self1 x0=> bif decide (x0<(a0.length:Int)) then bnd a0.length x0 fun n2=> a0[n2]?.bind fun y3=> bif (decide (y3.1=a1.1)&&(decide (y3.2=a1.2)&&true)) then some (Sum.inr true) else self1 (IntKind.wrap .i64 (x0+1)) else some (Sum.inl ())) (0:Int)).bind fun y=>match y with | .inl x4=> some (false,()) | .inr x4=> some (x4,()):=by kernel_rfl
def UA:TC:=
 (zS [dK 3 1,AR 4] (zS [bK 5] (zQ (.join [⟨5,[.i .i64],false⟩] 1048544 none (.block 0 (.loop [⟨5,[.i .i64],false⟩] 1048544 (zQ (.seq (.join [⟨17,[.b],false⟩] 262080 none (zR [df 6 5 0,l9 8 7,gy 9 6 8,BS 10 9 0 4,iE 12 5 4,qW 13 11 12 4,zEa 14 11 2 13 2 4,zEA 15 3 2 4,qa 192 14 15 16 16 4,oW 10 16 17])) (zC 17 .skip (.exit 0))) (.block 1 (zR [gY 18 5 5])))))) (zS [df 20 0 5,df 27 0 5,[o1 22 (.res 20 none (some (.t 21)))],zIC 23 22,dM 24 3 2,zGh 25 24,yw 23 25 26 23,[o1 29 (.res 27 (some (.t 28)) none)],MM 26 29 30 26 4] .ret))))
def UB:aL:=⟨[.rd false iG,.rd true [.d,.d]],(.one false iG)⟩
def UC:aK:=aD [(192,Lt)]
def Iz (n:Nat):(List aP) × aP->Option ((List aP) × Unit):=aH n UC UA [[.sl [.i .i64,.i .i64]],[.i .i64,.i .i64]] [.sl [.i .i64,.i .i64]] [] [4] .no
def uz:=Iz BIG
def Aj:TSp:=⟨UB,[[.sl [.i .i64,.i .i64]],[.i .i64,.i .i64]],[.sl [.i .i64,.i .i64]],[],Ou.j .no,uz⟩
theorem alm:zK UC 156 UB UA 31 .no [4]:=by show _=_;kernel_rfl
theorem Ep:Aj.Ok PG 156:=aO (ae Pw (ay PG)) alm (by kernel_rfl)
theorem aln (n) (a0) (a1):Iz n (a0,a1) = (aJ n (X:=Int) (B:=Int) (fun self1 x0=> (bif decide (x0<(a0.length:Int)) then bnd a0.length x0 fun n2=> a0[n2]?.bind fun y3=> (zt (y3,a1)).bind fun r4=> some r4.1 else some false).bind fun x5=> bif x5 then self1 (IntKind.wrap .i64 (x0+1)) else some x0) (0:Int)).bind fun x6=> bif decide (0<=x6) then bif decide (0<=(Int.toNat x6)/\(Int.toNat x6)<=a0.length) then bif decide ((List.take ((Int.toNat x6)-0) (List.drop 0 a0)).length<=4294967296) then bif decide ((List.take ((Int.toNat x6)-0) (List.drop 0 a0)).length+[a1].length<=4294967296) then bif decide (0<=x6) then bif decide ((Int.toNat x6)<=a0.length/\a0.length<=a0.length) then bif decide (((List.take ((Int.toNat x6)-0) (List.drop 0 a0))++[a1]).length+(List.take (a0.length-(Int.toNat x6)) (List.drop (Int.toNat x6) a0)).length<=4294967296) then some (((List.take ((Int.toNat x6)-0) (List.drop 0 a0))++[a1])++(List.take (a0.length-(Int.toNat x6)) (List.drop (Int.toNat x6) a0)),()) else none else none else none else none else none else none else none:=by kernel_rfl
def JO:TC:=
 (zS [dK 3 1,AR 4] (zS [AR 5] (zQ (.join [⟨5,[.sl [.i .i64,.i .i64]],false⟩] 4194208 none (zS [au 8 0,rX 9 8] (.block 0 (.loop [⟨5,[.sl [.i .i64,.i .i64]],false⟩,⟨10,[.i .i64],false⟩] 4193440 (zS [gy 11 10 9] (zQ (zC 11 .skip (.exit 0)) (zQ (.join [⟨5,[.sl [.i .i64,.i .i64]],false⟩] 2093216 none (.block 1 (zS [Og 12 8 10 8 2 2,qX 7 1000000008,dR 7 7 13] (zS [dM 14 7 2,dM 15 3 2,zEk 16 14 15] (zC 16 (zR [dC 5 17 5,dM 18 7 2,Jv 19 18 17 17 5]) .skip))))) (zR [mM 21 10])))))))) (zS [tO 5 22 5 4] .ret))))
def JP:aL:=⟨[.rd false iG,.rd true [.d,.d]],(.one false iG)⟩
def JQ:aK:=aD []
def zz (n:Nat):(List aP) × aP->Option ((List aP) × Unit):=aH n JQ JO [[.sl [.i .i64,.i .i64]],[.i .i64,.i .i64]] [.sl [.i .i64,.i .i64]] [] [4] .no
def tF:=zz BIG
def zB:TSp:=⟨JP,[[.sl [.i .i64,.i .i64]],[.i .i64,.i .i64]],[.sl [.i .i64,.i .i64]],[],Ou.j .no,tF⟩
theorem acn:zK JQ 158 JP JO 23 .no [4]:=by show _=_;kernel_rfl
theorem Gv:zB.Ok PG 158:=aO (ay PG) acn (by kernel_rfl)
theorem aco (n) (a0) (a1):zz n (a0,a1) = (aJ n (X:=(List aP) × Int) (B:=(List aP)) (fun self1 x0=> bif decide (x0.2<(a0.length:Int)) then (bnd a0.length x0.2 fun n2=> a0[n2]?.bind fun y3=> bif !(decide (y3.1=a1.1)&&(decide (y3.2=a1.2)&&true)) then bif decide (x0.1.length+[y3].length<=4294967296) then some (x0.1++[y3]) else none else some x0.1:Option ((List aP))).bind fun x4=> self1 (x4,IntKind.wrap .i64 (x0.2+1)) else some x0.1) ([],(0:Int))).bind fun x5=> some (x5,()):=by kernel_rfl
def PT:TC:=
 (zS [dK 3 1,bK 4] (zS [dM 7 3 4,gz 8 190 7,qX 5 1000000006,dR 5 5 8] (zS [dA 9,AY 10 9 2,yC 13 5 2 155 12,au 6 14] (zQ (.join [⟨0,bC,false⟩] 10633823966279326983230456482242727953 (some [⟨4,[.i .i64],false⟩,⟨0,bC,false⟩]) (.block 0 (zQ (.join [⟨15,[.b],false⟩] 274877874176 none (zR [dA 16,dA 24,AY 17 16 1,bO 20 5 0,FR 22 19 21 0 1 1,AY 25 24 1,bO 28 5 1,FR 30 27 29 0 1 1,o8 32 23 31,au 33 32,AU 34 17 3 1,zIs 36 35 1 17,nA 33 36 37 15])) (zC 15 (zS [dA 38,dA 40,zGu 1000000002 4 39 39,zMk 1000000002 40 41 41 0 1,zMh 1000000002 44 44 5 0 43,zGy 1000000002 0 1 1 46 47 47,dM 48 5 2,zGh 49 48,zIr 1 49 50 49 50,[⟨false,[],[],.call 3 136 [.t 0,.t 39,.t 47,.t 50] (.mp 0),[51,0,50,12,19,22,27,30,46,43],(some 51),none⟩],au 4 51] .ret) (zS [dA 53,dA 61,AY 54 53 1,bO 57 5 0,FR 59 56 58 0 1 1,AY 62 61 1,bO 65 5 1,FR 67 64 66 0 1 1,o8 69 60 68,au 52 69] (zC 52 (zS [dA 70,dA 72,zGu 1000000002 4 71 71,zMk 1000000002 72 73 73 0 1,zMh 1000000002 76 76 5 0 75,zGy 1000000002 0 1 1 78 79 79,dM 80 5 2,zGh 81 80,zIr 2 81 82 81 82,[⟨false,[],[],.call 3 136 [.t 0,.t 71,.t 79,.t 82] (.mp 0),[83,0,82,12,19,22,27,30,56,59,64,67,78,75],(some 83),none⟩],au 4 83] .ret) (zQ (.join [⟨84,[.b],false⟩] 4932417344027687032801198080 none (zR [bO 85 3 1,wX 87 86 1,BS 88 87 6 3,zEc 90 89 3,nA 88 90 91 84])) (zC 84 (zS [dA 92,FQ 93 2,yC 97 5 2 156 96,ny 99 92,zJc 98 96 100 98] (zS [yE 101 3 4,Od 73 0 102 1 103 0 103,au 4 103] .ret)) (zQ (.join [⟨104,[.b],false⟩] 2575866019663762143841300913324032 none (zR [bO 105 3 1,wX 107 106 2,BS 108 107 6 3,nA 108 109 110 104])) (zC 104 (zS [dA 111,FQ 112 2,yC 116 5 2 158 115,ny 118 111,zJc 117 115 119 117] (zS [yE 120 3 4,Od 73 0 121 1 122 0 122,au 4 122] .ret)) .skip)))))))))) (zS [yE 123 3 4,[⟨false,[],[],.call 2 73 [.t 0,.t 124,kO 2] (.mp 0),[125,0,12,19,22,27,30,56,59,64,67],(some 125),none⟩],au 4 125] .ret)))))
def PU:aL:=⟨[.mp oV,.rd true [.d,.d,.d,.d]],(.one false [.d])⟩
def PV:aK:=aD [(190,aeU),(155,CO),(136,uO),(156,Aj),(73,uy),(158,zB)]
def Er (n:Nat):eH × qG->Option ((Int) × Int × List Int × List aP × List (List Int) × List Int × Int × Int × Int × Int × Int × Int × Int × List aP × Int × List ve):=aH n PV PT [bC,fO] [.i .i64] bC [4] (.mp 0)
def Es:=Er BIG
def PW:TSp:=⟨PU,[bC,fO],[.i .i64],bC,Ou.j (.mp 0),Es⟩
theorem aiB:zK PV 137 PU PT 126 (.mp 0) [4]:=by show _=_;kernel_rfl
theorem afN:PW.Ok PG 137:=aO (ae aqd (ae Iy (ae zy (ae Ep (ae xI (ae Gv (ay PG))))))) aiB (by kernel_rfl)
theorem aiC (n) (a0) (a1):Er n (a0,a1) = (PS a1).bind fun r0=> (xJ (a0.2.2.1,r0.1)).bind fun r1=> ((bnd a0.2.1.length r0.1.1 fun n2=> a0.2.1[n2]?.bind fun y3=> bnd a0.2.1.length r0.1.2 fun n4=> a0.2.1[n4]?.bind fun y5=> bif decide (y3=y5) then some (decide (a1.2.1=1)) else some false).bind fun x6=> bif x6 then bnd a0.2.1.length r0.1.1 fun n7=> a0.2.1[n7]?.bind fun y8=> (lu (a0,a1,y8,((0:Int),(1:Int),[r0.1],(0:Int)))).bind fun r9=> some (Sum.inr (r9.1,r9.2)) else bnd a0.2.1.length r0.1.1 fun n10=> a0.2.1[n10]?.bind fun y11=> bnd a0.2.1.length r0.1.2 fun n12=> a0.2.1[n12]?.bind fun y13=> bif decide (y11=y13) then bnd a0.2.1.length r0.1.1 fun n14=> a0.2.1[n14]?.bind fun y15=> (lu (a0,a1,y15,((0:Int),(2:Int),[r0.1],(0:Int)))).bind fun r16=> some (Sum.inr (r16.1,r16.2)) else (bif decide (a1.2.1=1) then some !r1.1 else some false).bind fun x17=> bif x17 then (uz (a0.2.2.1,r0.1)).bind fun r18=> (ic ((a0.1,a0.2.1,r18.1,a0.2.2.2),a1,(1:Int))).bind fun r19=> some (Sum.inr (r19.1,r19.2)) else (bif decide (a1.2.1=2) then some r1.1 else some false).bind fun x20=> bif x20 then (tF (a0.2.2.1,r0.1)).bind fun r21=> (ic ((a0.1,a0.2.1,r21.1,a0.2.2.2),a1,(1:Int))).bind fun r22=> some (Sum.inr (r22.1,r22.2)) else some (Sum.inl a0)).bind fun y=>match y with | .inl x23=> (ic (x23,a1,(2:Int))).bind fun r24=> some (r24.1,r24.2) | .inr x23=> some (x23.1,x23.2):=by kernel_rfl
def PY:TC:=
 (zS [dK 3 1,bK 4] (zQ (.join [⟨0,bC,false⟩] 618970019642690137449562097 (some [⟨4,[.i .i64],false⟩,⟨0,bC,false⟩]) (.block 0 (zS [dA 8,rV 9 8,zJd 10 0 9 15,yC 11 3 4 134 10,au 7 12] (zC 7 (zS [yE 13 3 4,zJe 14 3 15 10 15,au 4 15] .ret) (zS [bO 17 3 1,yF 19 18 3 16] (zC 16 (zS [dA 21,dA 25,dA 29,Ta 22 21 0 0,AY 26 25 3,AY 30 29 2,DL 33 135 24 28 32,DR 33 20 33 1 1,dC 34 5 34,au 6 35] (zS [dA 36,gN 38 5,gN 43 5,dM 37 3 4,Oj 39 3 2 38 5 1,Oj 44 3 3 43 5 1,o8 48 42 47,gz 49 74 48,[⟨false,[],[],.call 2 73 [.t 0,.t 37,.t 49] (.mp 0),[50,0,10,28,32],(some 50),none⟩],au 4 50] .ret)) (zQ (.join [⟨51,[.b],false⟩] 295145653379539140608 none (zR [bO 52 3 1,wX 54 53 4,au 55 54,[o2 56 (.p0) 3 true],zJf 57 56 3,Jq 58 57 3,zJg 59 0 58 1,vV 60 3 3 2 3,qW 62 59 61 3,[o2 63 (.load 0 [(1,1)] 0 (.t 62) 1 false) 3 true],vV 64 3 3 3 3,DK 66 63 65 3,nA 55 66 67 51])) (zC 51 (zS [yE 68 3 4,zJe 69 2 70 10 70,au 4 70] .ret) (zS [bO 72 3 1,yF 74 73 4 71] (zC 71 (zS [dA 75,dA 77,zGu 1000000002 4 76 76,zMk 1000000002 77 78 78 0 1,zMh 1000000002 81 81 3 2 80,zGy 1000000002 0 1 1 83 84 84,bO 85 3 2,zGz 86 87,[⟨false,[],[],.call 3 136 [.t 0,.t 76,.t 84,.t 87] (.mp 0),[88,0,87,10,83,80],(some 88),none⟩],au 4 88] .ret) .skip)))))))))) (zS [yE 89 3 4,[⟨false,[],[],.call 2 137 [.t 0,.t 90] (.mp 0),[91,0,10],(some 91),none⟩],au 4 91] .ret)))
def PZ:aL:=⟨[.mp oV,.rd true [.d,.d,.d,.d]],(.one false [.d])⟩
def P5:aK:=aD [(134,PI),(73,uy),(135,JN),(74,WN),(136,uO),(137,PW)]
def Et (n:Nat):eH × qG->Option ((Int) × Int × List Int × List aP × List (List Int) × List Int × Int × Int × Int × Int × Int × Int × Int × List aP × Int × List ve):=aH n P5 PY [bC,fO] [.i .i64] bC [4] (.mp 0)
def Eu:=Et BIG
def P6:TSp:=⟨PZ,[bC,fO],[.i .i64],bC,Ou.j (.mp 0),Eu⟩
theorem aiD:zK P5 50 PZ PY 92 (.mp 0) [4]:=by show _=_;kernel_rfl
theorem afO:P6.Ok PG 50:=aO (ae Z_ (ae xI (ae aad (ae aeQ (ae zy (ae afN (ay PG))))))) aiD (by kernel_rfl)
theorem aiE (n) (a0) (a1):Et n (a0,a1) = ((Gt (a0,a1)).bind fun r0=> bif r0.1 then (ic (a0,a1,(3:Int))).bind fun r1=> some (Sum.inr (r1.1,r1.2)) else bif decide (a1.2.1=3) then (zx (a0.1,a0.2.2.2.1,a0.2.2.1)).bind fun r2=> bnd r2.1.1.length a1.2.2.1 fun n3=> r2.1.1[n3]?.bind fun y4=> bnd r2.1.1.length a1.2.2.2 fun n5=> r2.1.1[n5]?.bind fun y6=> (LD (decide (y4=y6))).bind fun r7=> (ic (a0,a1,r7.1)).bind fun r8=> some (Sum.inr (r8.1,r8.2)) else (bif decide (a1.2.1=4) then bnd a0.2.1.length a1.2.2.1 fun n9=> a0.2.1[n9]?.bind fun y10=> some (decide (y10=a1.2.2.2)) else some false).bind fun x11=> bif x11 then (ic (a0,a1,(2:Int))).bind fun r12=> some (Sum.inr (r12.1,r12.2)) else bif decide (a1.2.1=4) then bnd a0.2.1.length a1.2.2.1 fun n13=> a0.2.1[n13]?.bind fun y14=> (lu (a0,a1,y14,((0:Int),(3:Int),[],a1.2.2.1))).bind fun r15=> some (Sum.inr (r15.1,r15.2)) else some (Sum.inl a0):Option ((eH) ⊕ Zt0)).bind fun y=>match y with | .inl x16=> (Es (x16,a1)).bind fun r17=> some (r17.1,r17.2) | .inr x16=> some (x16.1,x16.2):=by kernel_rfl
def ant:TC:=
 (zS [dK 2 0,dK 3 1,p_ 4 1000000005,bK 5] (zS [dM 8 2 15,gz 9 47 8,p_ 6 1000000007,iZ 6 9 6 9] (zQ (.seq (.join [⟨36,[.b],false⟩] 137438952448 none (zR [dM 10 2 15,gz 11 12 10,FX 12 11 3 3 0 3,Yz 48 15 100000 16 16 3 3 13,yB 20 9 2 14 9,yB 22 9 3 0 9,yx 49 21 23 24 24 9,zGq 25 24 0 9,qU 19 25 26,au 27 26,BP 28 2 15 17,SH 13 28 29 29 17,qU 27 29 30,au 31 30,zLB 32 21 2 14,zGq 35 34 80 21,qU 31 35 36])) (zC 36 (zS [w9 37 6 15 4 4 6,bK 5] .ret) .skip)) (zS [dM 38 3 4,zGB 50 6 38 39 6 39,au 7 39] (zS [jf 40 6 15,au 41 7,FN 40 4 40 4 40 40 6,au 5 41] .ret)))))
def anu:aL:=⟨[.rd true oV,.rd true [.d,.d,.d,.d]],(.tup [(true,15),(false,1)] Ct0)⟩
def anv:aK:=aD [(47,Iq),(12,Gu),(48,kX),(49,Gs),(13,ack),(50,P6)]
def acp (n:Nat):eH × qG->Option (Zt2 × Unit):=aH n anv ant [bC,fO] Ty0 [] [4,5] .no
def Dc:=acp BIG
def anw:TSp:=⟨anu,[bC,fO],Ty0,[],Ou.j .no,Dc⟩
theorem azq:zK anv 10 anu ant 42 .no [4,5]:=by show _=_;kernel_rfl
theorem awd:anw.Ok PG 10:=aO (ae Pq (ae LB (ae jQ (ae Lv (ae aiw (ae afO (ay PG))))))) azq (by kernel_rfl)
theorem azr (n) (a0) (a1):acp n (a0,a1) = (Ag a0).bind fun r0=> ((v_ a0).bind fun r1=> bif !r1.1 then some true else (fq (a1.1,(1:Int),(100000:Int))).bind fun r2=> bif !r2.1 then some true else (Bd (a0.2.2.2.2.2.2.2.2.2.2.2.2.2.2,a1.1)).bind fun r3=> bif decide (0<=r3.1) then some true else (R7 a0).bind fun r4=> bif r4.1 then some true else some (decide (80<=(a0.2.2.2.2.2.2.2.2.2.2.2.2.2.2.length:Int)))).bind fun x5=> bif x5 then some ((r0.1.1,r0.1.2.1,r0.1.2.2.1,r0.1.2.2.2.1,r0.1.2.2.2.2.1,r0.1.2.2.2.2.2.1,r0.1.2.2.2.2.2.2.1,r0.1.2.2.2.2.2.2.2.1,r0.1.2.2.2.2.2.2.2.2.1,r0.1.2.2.2.2.2.2.2.2.2.1,r0.1.2.2.2.2.2.2.2.2.2.2.1,r0.1.2.2.2.2.2.2.2.2.2.2.2.1,r0.1.2.2.2.2.2.2.2.2.2.2.2.2.1,r0.1.2.2.2.2.2.2.2.2.2.2.2.2.2.1,r0.1.2.2.2.2.2.2.2.2.2.2.2.2.2.2,(0:Int)),()) else (Eu (r0.1,a1)).bind fun r6=> some ((r6.2.1,r6.2.2.1,r6.2.2.2.1,r6.2.2.2.2.1,r6.2.2.2.2.2.1,r6.2.2.2.2.2.2.1,r6.2.2.2.2.2.2.2.1,r6.2.2.2.2.2.2.2.2.1,r6.2.2.2.2.2.2.2.2.2.1,r6.2.2.2.2.2.2.2.2.2.2.1,r6.2.2.2.2.2.2.2.2.2.2.2.1,r6.2.2.2.2.2.2.2.2.2.2.2.2.1,r6.2.2.2.2.2.2.2.2.2.2.2.2.2.1,r6.2.2.2.2.2.2.2.2.2.2.2.2.2.2.1,r6.2.2.2.2.2.2.2.2.2.2.2.2.2.2.2,r6.1),()):=by kernel_rfl
def UD:TC:=
 (zS [kP 3 1] (zQ (.join [⟨4,[.b],false⟩] 16777200 none (zR [au 5 0,oZ 6 48 5 12,au 7 6,qV 8 2,BL 9 3 0 8 2,zEB 48 9 10 10 2,lC 7 10 11,iE 13 0 7,vV 14 7 3 2 7,qa 144 13 15 16 16 7,lC 12 16 17,iE 19 0 13,AU 20 13 3 3,qa 59 19 21 22 22 13,nA 18 22 23 4])) .ret))
def UE:aL:=⟨[.rd false [.d],.rd true MJ],(.one false [.d])⟩
def UF:aK:=aD [(48,kX),(144,xH),(59,Iu)]
def IA (n:Nat):Int × oK->Option ((Bool) × Unit):=aH n UF UD [[.i .i64],iF] [.b] [] [4] .no
def Ak:=IA BIG
def IB:TSp:=⟨UE,[[.i .i64],iF],[.b],[],Ou.j .no,Ak⟩
theorem alo:zK UF 71 UE UD 24 .no [4]:=by show _=_;kernel_rfl
theorem P7:IB.Ok PG 71:=aO (ae jQ (ae Ai (ae Ps (ay PG)))) alo (by kernel_rfl)
theorem alp (n) (a0) (a1):IA n (a0,a1) = ((fq (a0,(1:Int),(12:Int))).bind fun r0=> bif r0.1 then (fq (a1.1,(1:Int),(100000:Int))).bind fun r1=> bif r1.1 then (tC (a0,a1.2.2.1)).bind fun r2=> bif r2.1 then (Ah (a0,a1.2.2.2)).bind fun r3=> some r3.1 else some false else some false else some false).bind fun x4=> some (x4,()):=by kernel_rfl
def anx:TC:=
 (zS [bz 6] (zQ (.join [⟨6,[.b],false⟩] 1048512 none (zR [df 7 1 0,l9 9 8,yz 10 9,Yq 11 48 7 10,BS 12 11 0 5,iE 14 1 5,qW 15 13 14 5,BN 16 13 1 15 5,iE 17 2 5,DK 18 16 17 5,nA 12 18 19 6])) .ret))
def anz:aL:=⟨[.rd false fF,.rd false [.d],.rd false [.d]],(.one false [.d])⟩
def anA:aK:=aD [(48,kX)]
def acr (n:Nat):List Int × Int × Int->Option ((Bool) × Unit):=aH n anA anx [[.sl [.i .i64]],[.i .i64],[.i .i64]] [.b] [] [6] .no
def R8:=acr BIG
def anB:TSp:=⟨anz,[[.sl [.i .i64]],[.i .i64],[.i .i64]],[.b],[],Ou.j .no,R8⟩
theorem azs:zK anA 200 anz anx 20 .no [6]:=by show _=_;kernel_rfl
theorem awe:anB.Ok PG 200:=aO (ae jQ (ay PG)) azs (by kernel_rfl)
theorem azt (n) (a0) (a1) (a2):acr n (a0,a1,a2) = ((fq (a1,(0:Int),IntKind.wrap .i64 ((a0.length:Int)-1))).bind fun r0=> bif r0.1 then bnd a0.length a1 fun n1=> a0[n1]?.bind fun y2=> some (decide (y2=a2)) else some false).bind fun x3=> some (x3,()):=by kernel_rfl
def aeV:TC:=
 (zS [AR 6] (zS [AR 7] (zQ (.join [⟨7,[.sl [.i .i64,.i .i64]],false⟩] 8589934208 none (zS [MN 10 1] (.block 0 (.loop [⟨7,[.sl [.i .i64,.i .i64]],false⟩,⟨12,[.i .i64],false⟩] 8589931136 (zS [gy 13 12 11] (zQ (zC 13 .skip (.exit 0)) (zQ (.join [⟨7,[.sl [.i .i64,.i .i64]],false⟩] 4294951552 none (.block 1 (zS [kN 14 10 12 2 2,qX 9 1000000010,dR 9 9 15] (zQ (.join [⟨27,[.b],false⟩] 268369920 none (zR [SN 16 0 9 0,au 19 2,DL 20 200 16 18 19,BS 21 20 0 5,vV 23 5 9 1 5,iE 25 2 5,[⟨false,[],[],.call 1 200 [.t 22,.t 24,.t 25] .no,[26],(some 26),some (5,true)⟩],oW 21 26 27])) (zC 27 (zR [dC 7 28 7,dM 29 9 2,Jv 30 29 28 28 7]) .skip))))) (zR [mM 32 12])))))))) (zS [tO 7 33 7 6] .ret))))
def aeW:aL:=⟨[.rd false fF,.rd false iG,.rd false [.d]],(.one false iG)⟩
def aeX:aK:=aD [(200,anB)]
def P8 (n:Nat):List Int × (List aP) × Int->Option ((List aP) × Unit):=aH n aeX aeV [[.sl [.i .i64]],[.sl [.i .i64,.i .i64]],[.i .i64]] [.sl [.i .i64,.i .i64]] [] [6] .no
def P9:=P8 BIG
def aeY:TSp:=⟨aeW,[[.sl [.i .i64]],[.sl [.i .i64,.i .i64]],[.i .i64]],[.sl [.i .i64,.i .i64]],[],Ou.j .no,P9⟩
theorem atI:zK aeX 157 aeW aeV 34 .no [6]:=by show _=_;kernel_rfl
theorem aqg:aeY.Ok PG 157:=aO (ae awe (ay PG)) atI (by kernel_rfl)
theorem atJ (n) (a0) (a1) (a2):P8 n (a0,a1,a2) = (aJ n (X:=(List aP) × Int) (B:=(List aP)) (fun self1 x0=> bif decide (x0.2<(a1.length:Int)) then (bnd a1.length x0.2 fun n2=> a1[n2]?.bind fun y3=> ((R8 (a0,y3.1,a2)).bind fun r4=> bif r4.1 then (R8 (a0,y3.2,a2)).bind fun r5=> some r5.1 else some false).bind fun x6=> bif x6 then bif decide (x0.1.length+[y3].length<=4294967296) then some (x0.1++[y3]) else none else some x0.1:Option ((List aP))).bind fun x7=> self1 (x7,IntKind.wrap .i64 (x0.2+1)) else some x0.1) ([],(0:Int))).bind fun x8=> some (x8,()):=by kernel_rfl
def Ev:TC:=
 (zS [dK 4 1,bK 6] (zQ (.join [⟨0,bC,false⟩] 1073725761 (some [⟨6,[.i .i64],false⟩,⟨0,bC,false⟩]) (zS [MN 14 2] (.block 0 (.loop [⟨0,bC,false⟩,⟨16,[.i .i64],false⟩] 1073676609 (zS [gy 17 16 15] (zQ (zC 17 .skip (.exit 0)) (zQ (.block 1 (zS [kN 18 14 16 2 2,qX 8 1000000009,dR 8 8 19] (zS [FQ 20 2,yC 24 8 2 155 23] (zC 25 (zS [yE 26 4 4,zJe 27 3 28 23 28,au 6 28] .ret) .skip)))) (zR [mM 29 16])))))))) (zQ (.seq (.join [⟨49,[.b],false⟩] 1125898833100800 none (zR [dA 32,bO 30 4 2,Ta 33 32 0 0,yz 36 35,Yq 37 48 31 36,FX 38 37 9 4 3 9,[o2 42 (.p0) 9 false],zJh 43 42 9,wZ 44 43 9,zJi 45 0 3 44 9,Jr 46 45 9,zEs 48 41 1 46 47 47 9,tN 48 47 9 39])) (zC 49 (zS [yE 50 4 4,Od 73 0 51 3 52 0 52,au 6 52] .ret) .skip)) (zQ (.join [⟨0,bC,false⟩] 590286803159450911745 none (zS [MN 53 2] (.block 2 (.loop [⟨0,bC,false⟩,⟨55,[.i .i64],false⟩] 590259781561686688769 (zS [gy 56 55 54] (zQ (zC 56 .skip (.exit 2)) (zQ (.block 3 (zS [kN 57 53 55 2 2,qX 10 1000000011,dR 10 10 58] (zR [dA 59,FQ 60 2,yC 64 10 2 156 63,ny 66 59,zBu 0 65 63 0 2 67 65]))) (zR [mM 68 55])))))))) (zS [FQ 69 1,o9 73 4 2 4 3,wW 77 72 74,zBg 0 72 0 1 1 0 77 76] (zS [dA 78,dA 82,AY 79 78 1,AY 83 82 2,bO 86 4 3,DL 88 157 81 85 87,dC 88 11 88] (zQ (zS [gN 89 11,l9 90 89,wX 91 90 0] (zC 91 (zS [yE 92 4 4,[⟨false,[],[],.call 2 73 [.t 0,.t 93,kO 1] (.mp 0),[94,0,77,81,85],(some 94),none⟩],au 6 94] .ret) .skip)) (zQ (.join [⟨0,bC,false⟩] 2596108815186156682096451392643073 none (zS [gN 95 11,rX 96 95] (.block 4 (.loop [⟨0,bC,false⟩,⟨97,[.i .i64],false⟩] 2595990014196978879939281663565825 (zS [gy 98 97 96] (zQ (zC 98 .skip (.exit 4)) (zQ (.block 5 (zS [Og 99 95 97 11 2 2,qX 13 1000000014,dR 13 13 100] (zR [dA 101,FQ 102 2,yC 106 13 2 158 105,ny 108 101,zBu 0 107 105 0 2 109 107]))) (zR [mM 110 97])))))))) (zS [yE 111 4 4,bO 113 4 3,zIq 11 115 11 89 95 115,zIr 4 115 116 115 116,zGA 136 0 112 114 116 117 0 116 117,au 6 117] .ret)))))))))
def Ew:aL:=⟨[.mp oV,.rd true [.d,.d,.d,.d],.rd false iG],(.one false [.d])⟩
def Ey:aK:=aD [(155,CO),(73,uy),(48,kX),(156,Aj),(157,aeY),(158,zB),(136,uO)]
def vC (n:Nat):eH × qG × (List aP)->Option ((Int) × Int × List Int × List aP × List (List Int) × List Int × Int × Int × Int × Int × Int × Int × Int × List aP × Int × List ve):=aH n Ey Ev [bC,fO,[.sl [.i .i64,.i .i64]]] [.i .i64] bC [6] (.mp 0)
def vD:=vC BIG
def Ez:TSp:=⟨Ew,[bC,fO,[.sl [.i .i64,.i .i64]]],[.i .i64],bC,Ou.j (.mp 0),vD⟩
theorem WP:zK Ey 75 Ew Ev 118 (.mp 0) [6]:=by show _=_;kernel_rfl
theorem Sv:Ez.Ok PG 75:=aO (ae Iy (ae xI (ae jQ (ae Ep (ae aqg (ae Gv (ae zy (ay PG)))))))) WP (by kernel_rfl)
theorem WQ (n) (a0) (a1) (a2):vC n (a0,a1,a2) = (aJ n (X:=eH × Int) (B:=(eH) ⊕ Zt0) (fun self1 x0=> bif decide (x0.2<(a2.length:Int)) then bnd a2.length x0.2 fun n2=> a2[n2]?.bind fun y3=> (xJ (x0.1.2.2.1,y3)).bind fun r4=> bif r4.1 then (ic (x0.1,a1,(3:Int))).bind fun r5=> some (Sum.inr (r5.1,r5.2)) else self1 (x0.1,IntKind.wrap .i64 (x0.2+1)) else some (Sum.inl x0.1)) (a0,(0:Int))).bind fun y=>match y with | .inl x6=> ((fq (a1.2.2.1,(0:Int),IntKind.wrap .i64 (x6.1-1))).bind fun r7=> bif !r7.1 then some true else (fq (a1.2.2.2,(1:Int),(x6.2.2.2.1.length:Int))).bind fun r8=> some !r8.1).bind fun x9=> bif x9 then (ic (x6,a1,(3:Int))).bind fun r10=> some (r10.1,r10.2) else (aJ n (X:=eH × Int) (B:=eH) (fun self12 x11=> bif decide (x11.2<(a2.length:Int)) then bnd a2.length x11.2 fun n13=> a2[n13]?.bind fun y14=> (uz (x11.1.2.2.1,y14)).bind fun r15=> self12 ((x11.1.1,x11.1.2.1,r15.1,x11.1.2.2.2),IntKind.wrap .i64 (x11.2+1)) else some x11.1) (x6,(0:Int))).bind fun x16=> bnd x16.2.1.length a1.2.2.1 fun n17=> x16.2.1[n17]?.bind fun y18=> (P9 (x16.2.1.set n17 a1.2.2.2,x16.2.2.1,a1.2.2.2)).bind fun r19=> bif decide ((r19.1.length:Int)=0) then (ic ((x16.1,x16.2.1.set n17 a1.2.2.2,x16.2.2),a1,(1:Int))).bind fun r20=> some (r20.1,r20.2) else (aJ n (X:=eH × Int) (B:=eH) (fun self22 x21=> bif decide (x21.2<(r19.1.length:Int)) then bnd r19.1.length x21.2 fun n23=> r19.1[n23]?.bind fun y24=> (tF (x21.1.2.2.1,y24)).bind fun r25=> self22 ((x21.1.1,x21.1.2.1,r25.1,x21.1.2.2.2),IntKind.wrap .i64 (x21.2+1)) else some x21.1) ((x16.1,x16.2.1.set n17 a1.2.2.2,x16.2.2),(0:Int))).bind fun x26=> (lu (x26,a1,a1.2.2.2,((0:Int),(4:Int),r19.1,(0:Int)))).bind fun r27=> some (r27.1,r27.2) | .inr x6=> some (x6.1,x6.2):=by kernel_rfl
def anC:TC:=
 (zS [dK 3 0,dK 5 2,p_ 6 1000000007,bK 7] (zS [AZ 11 3 15 47,p_ 8 1000000009,iZ 8 12 8 12] (zQ (.seq (.join [⟨43,[.b],false⟩] 17592186036224 none (zR [AZ 13 3 15 12,FX 15 14 3 3 0 3,S_ 19 5 4 3 71 18 3,DN 21 20 3 16,BP 24 3 15 10,SH 13 24 25 25 10,DN 26 25 10 23,jH 29 1 15,rW 30 15,wZ 31 30 15,BM 32 3 9 31 15,Jt 33 29 32 15 28,au 35 34,BQ 36 22 5 0,rW 38 22,wZ 39 38 22,wZ 40 39 22,BM 41 3 10 40 22,Jt 42 37 41 22 35])) (zC 43 (zS [w9 44 8 15 6 6 8,bK 7] .ret) .skip)) (zS [jq 45,[o1 46 (.load 8 [] 5 (.t 45) 9 true)],zEw 9 1000000010,FN 46 9 46 9 46 46 8] (zS [zGe 47,jq 48,zGf 8 47 8 5 48 47] (zS [uq 49 8 4,au 51 1,yz 52 51,bO 53 5 0,wW 55 50 52,zBg 8 50 8 4 1 0 55 54] (zS [au 58 1,uq 56 8 3,yz 59 58,bO 60 5 3,gz 62 72 61,wW 63 57 59,[o4 2 [8,62,45,48,49,55,63,57,56] (.store 8 [(3,1)] 0 (.t 63) (.t 62))]] (zS [bK 10] (zQ (.join [⟨8,bC,false⟩,⟨10,[.i .i64],false⟩] 309484991374600995015230720 none (.block 0 (zS [Yx 68 9 1,zDi 71 70 4,au 67 71] (zC 67 (zR [FU 72 9 0 4,bO 74 5 1,gz 76 74 75,zGt 73 8 73 76 77 8 77,au 10 77]) (zS [Yx 79 9 6,yF 82 81 3 78] (zC 78 (zR [FU 83 9 0 4,bO 85 5 2,zGt 75 8 84 86 87 8 87,au 10 87]) (zR [FU 64 9 0 4,Od 73 8 65 1 66 8 66,au 10 66]))))))) (zS [jf 88 8 15,au 89 10,FN 88 6 88 6 88 88 8,au 7 89] .ret))))))))))
def anD:aL:=⟨[.rd true oV,.rd false [.d],.rd true MJ],(.tup [(true,15),(false,1)] Ct0)⟩
def anE:aK:=aD [(47,Iq),(12,Gu),(71,IB),(13,ack),(72,Af),(74,WN),(73,uy),(75,Ez)]
def acs (n:Nat):eH × Int × oK->Option (Zt2 × Unit):=aH n anE anC [bC,[.i .i64],iF] Ty0 [] [6,7] .no
def De:=acs BIG
def anF:TSp:=⟨anD,[bC,[.i .i64],iF],Ty0,[],Ou.j .no,De⟩
theorem azu:zK anE 15 anD anC 90 .no [6,7]:=by show _=_;kernel_rfl
theorem awf:anF.Ok PG 15:=aO (ae Pq (ae LB (ae P7 (ae aiw (ae En (ae aeQ (ae xI (ae Sv (ay PG))))))))) azu (by kernel_rfl)
theorem azv (n) (a0) (a1) (a2):acs n (a0,a1,a2) = (Ag a0).bind fun r0=> ((v_ a0).bind fun r1=> bif !r1.1 then some true else (Ak (a0.1,a2)).bind fun r2=> bif !r2.1 then some true else (R7 a0).bind fun r3=> bif !r3.1 then some true else bif !decide (a1=a0.2.2.2.2.2.2.2.2.2.1) then some true else some (!decide (a2.1=a0.2.2.2.2.2.2.2.2.2.2.1))).bind fun x4=> bif x4 then some ((r0.1.1,r0.1.2.1,r0.1.2.2.1,r0.1.2.2.2.1,r0.1.2.2.2.2.1,r0.1.2.2.2.2.2.1,r0.1.2.2.2.2.2.2.1,r0.1.2.2.2.2.2.2.2.1,r0.1.2.2.2.2.2.2.2.2.1,r0.1.2.2.2.2.2.2.2.2.2.1,r0.1.2.2.2.2.2.2.2.2.2.2.1,r0.1.2.2.2.2.2.2.2.2.2.2.2.1,r0.1.2.2.2.2.2.2.2.2.2.2.2.2.1,r0.1.2.2.2.2.2.2.2.2.2.2.2.2.2.1,r0.1.2.2.2.2.2.2.2.2.2.2.2.2.2.2,(0:Int)),()) else bnd r0.1.2.2.2.2.1.length (IntKind.wrap .i64 (a1-1)) fun n5=> r0.1.2.2.2.2.1[n5]?.bind fun y6=> (mf a2.2.2.2).bind fun r7=> bnd r0.1.2.2.2.1.length (IntKind.wrap .i64 (a1-1)) fun n8=> r0.1.2.2.2.1[n8]?.bind fun y9=> (bif !decide (r0.1.2.2.2.2.2.2.1=4) then (LD a2.2.1).bind fun r10=> (ic ((r0.1.1,r0.1.2.1,r0.1.2.2.1,r0.1.2.2.2.1.set n8 r7.1,r0.1.2.2.2.2.1.set n5 a2.1,(0:Int),(0:Int),(0:Int),(0:Int),(0:Int),(0:Int),(0:Int),[],(0:Int),r0.1.2.2.2.2.2.2.2.2.2.2.2.2.2.2),(r0.1.2.2.2.2.2.1,r0.1.2.2.2.2.2.2.1,r0.1.2.2.2.2.2.2.2.1,r0.1.2.2.2.2.2.2.2.2.1),r10.1)).bind fun r11=> some (r11.2,r11.1) else bif decide (r0.1.2.2.2.2.2.2.2.2.2.2.2.1=3) then (vD ((r0.1.1,r0.1.2.1,r0.1.2.2.1,r0.1.2.2.2.1.set n8 r7.1,r0.1.2.2.2.2.1.set n5 a2.1,(0:Int),(0:Int),(0:Int),(0:Int),(0:Int),(0:Int),(0:Int),[],(0:Int),r0.1.2.2.2.2.2.2.2.2.2.2.2.2.2.2),(r0.1.2.2.2.2.2.1,r0.1.2.2.2.2.2.2.1,r0.1.2.2.2.2.2.2.2.1,r0.1.2.2.2.2.2.2.2.2.1),a2.2.2.1)).bind fun r12=> some (r12.2,r12.1) else (ic ((r0.1.1,r0.1.2.1,r0.1.2.2.1,r0.1.2.2.2.1.set n8 r7.1,r0.1.2.2.2.2.1.set n5 a2.1,(0:Int),(0:Int),(0:Int),(0:Int),(0:Int),(0:Int),(0:Int),[],(0:Int),r0.1.2.2.2.2.2.2.2.2.2.2.2.2.2.2),(r0.1.2.2.2.2.2.1,r0.1.2.2.2.2.2.2.1,r0.1.2.2.2.2.2.2.2.1,r0.1.2.2.2.2.2.2.2.2.1),(1:Int))).bind fun r13=> some (r13.2,r13.1):Option (eH × Int)).bind fun x14=> some ((x14.1.1,x14.1.2.1,x14.1.2.2.1,x14.1.2.2.2.1,x14.1.2.2.2.2.1,x14.1.2.2.2.2.2.1,x14.1.2.2.2.2.2.2.1,x14.1.2.2.2.2.2.2.2.1,x14.1.2.2.2.2.2.2.2.2.1,x14.1.2.2.2.2.2.2.2.2.2.1,x14.1.2.2.2.2.2.2.2.2.2.2.1,x14.1.2.2.2.2.2.2.2.2.2.2.2.1,x14.1.2.2.2.2.2.2.2.2.2.2.2.2.1,x14.1.2.2.2.2.2.2.2.2.2.2.2.2.2.1,x14.1.2.2.2.2.2.2.2.2.2.2.2.2.2.2,x14.2),()):=by kernel_rfl
def UG:TC:=
 (zS [p_ 6 1000000007,bz 7] (zS [df 15 0 1,zMx 17 109 15 16 14,zDc 14 15 18 14,uo 19 14 15,p_ 8 1000000009,zJj 18 18 8 18 8 18 18,au 9 19] (zQ (zS [au 20 9,jN 21 20] (zC 21 (zS [zBp 22,zJj 22 22 6 22 6 22 22,bz 7] .ret) .skip)) (zQ (.join [⟨6,bC,false⟩,⟨8,bC,false⟩] 144115188067482048 (some [⟨6,bC,false⟩,⟨7,[.b],false⟩]) (zS [MN 23 2] (.block 0 (.loop [⟨6,bC,false⟩,⟨8,bC,false⟩,⟨25,[.i .i64],false⟩] 144115188042316224 (zS [gy 26 25 24] (zQ (zC 26 .skip (.exit 0)) (zQ (.join [⟨6,bC,false⟩,⟨8,bC,false⟩] 72057593903724992 (some [⟨6,bC,false⟩,⟨7,[.b],false⟩]) (.block 1 (zS [kN 27 23 25 14 14,zJk,dR 11 11 28] (zS [bK 12] (zS [dM 29 8 15,p_ 13 1000000014,dR 13 13 29] (zQ (.join [⟨13,bC,false⟩,⟨12,[.i .i64],false⟩] 4503598553640960 none (zS [bO 30 11 0] (.block 2 (zS [Td 33 31 1] (zC 32 (zR [dM 35 8 15,FU 36 11 1 4,jI 38 10 35 37,zLA 38 34 38 15,zJj 39 39 13 39 13 39 39,au 12 40]) (zS [yF 42 31 2 41] (zC 41 (zR [dM 44 8 15,bO 45 11 5,FU 47 11 6 4,DL 49 15 44 46 48,zLA 49 43 49 15,zJj 50 50 13 50 13 50 50,au 12 51]) .skip))))))) (zQ (zS [au 52 12,wX 53 52 0] (zC 53 (zS [zBp 54,zJj 54 54 6 54 6 54 54,bz 7] .ret) .skip)) (zR [dM 55 13 15,dR 8 8 55])))))))) (zR [mM 56 25])))))))) (zS [dM 57 8 15,dR 6 6 57,gX 7] .ret)))))
def UH:aL:=⟨[.rd false [.d],.rd false [.d],.rd false Ct2],(.tup [(true,15),(false,1)] [.d,.sl (.ro []) [.d],.sl (.ro []) [.d,.d],.sl (.ro []) [.sl (.ro []) [.d]],.sl (.ro []) [.d],.d,.d,.d,.d,.d,.d,.d,.sl (.ro []) [.d,.d],.d,.sl (.ro []) ape,.d])⟩
def UI:aK:=aD [(109,Z6),(10,anw),(15,anF)]
def IC (n:Nat):Int × Int × (List Zt7)->Option (Zt1 × Unit):=aH n UI UG [[.i .i64],[.i .i64],yn] Ty1 [] [6,7] .no
def Al:=IC BIG
def UJ:TSp:=⟨UH,[[.i .i64],[.i .i64],yn],Ty1,[],Ou.j .no,Al⟩
theorem alq:zK UI 30 UH UG 58 .no [6,7]:=by show _=_;kernel_rfl
theorem aiF:UJ.Ok PG 30:=aO (ae alb (ae awd (ae awf (ay PG)))) alq (by kernel_rfl)
theorem alr (n) (a0) (a1) (a2):IC n (a0,a1,a2) =
 (CK (a0,a1)).bind fun r0=>
 bif !r0.1.2.2.2.2.2.2.2.2.2.2.2.2.2.2.2 then
  some (((0:Int),[],[],[],[],(0:Int),(0:Int),(0:Int),(0:Int),(0:Int),(0:Int),(0:Int),[],(0:Int),[],false),())
 else (aJ n (X:=eH × eH × Int) (B:=(eH × eH) ⊕ (eH × Bool)) (fun self2 x1=>
  bif decide (x1.2.2<(a2.length:Int)) then
   (bnd a2.length x1.2.2 fun n3=>
    a2[n3]?.bind fun y4=>
    (bif decide (y4.1=1) then
     (Dc (x1.2.1,(y4.2.1,y4.2.2.1,y4.2.2.2.1,y4.2.2.2.2.1))).bind fun r5=>
     some ((r5.1.1,r5.1.2.1,r5.1.2.2.1,r5.1.2.2.2.1,r5.1.2.2.2.2.1,r5.1.2.2.2.2.2.1,r5.1.2.2.2.2.2.2.1,r5.1.2.2.2.2.2.2.2.1,r5.1.2.2.2.2.2.2.2.2.1,r5.1.2.2.2.2.2.2.2.2.2.1,r5.1.2.2.2.2.2.2.2.2.2.2.1,r5.1.2.2.2.2.2.2.2.2.2.2.2.1,r5.1.2.2.2.2.2.2.2.2.2.2.2.2.1,r5.1.2.2.2.2.2.2.2.2.2.2.2.2.2.1,r5.1.2.2.2.2.2.2.2.2.2.2.2.2.2.2.1),r5.1.2.2.2.2.2.2.2.2.2.2.2.2.2.2.2)
     else bif decide (y4.1=2) then
      (De (x1.2.1,y4.2.2.2.2.2.1,(y4.2.2.2.2.2.2.1,y4.2.2.2.2.2.2.2.1,y4.2.2.2.2.2.2.2.2.1,y4.2.2.2.2.2.2.2.2.2.1))).bind fun r6=>
      some ((r6.1.1,r6.1.2.1,r6.1.2.2.1,r6.1.2.2.2.1,r6.1.2.2.2.2.1,r6.1.2.2.2.2.2.1,r6.1.2.2.2.2.2.2.1,r6.1.2.2.2.2.2.2.2.1,r6.1.2.2.2.2.2.2.2.2.1,r6.1.2.2.2.2.2.2.2.2.2.1,r6.1.2.2.2.2.2.2.2.2.2.2.1,r6.1.2.2.2.2.2.2.2.2.2.2.2.1,r6.1.2.2.2.2.2.2.2.2.2.2.2.2.1,r6.1.2.2.2.2.2.2.2.2.2.2.2.2.2.1,r6.1.2.2.2.2.2.2.2.2.2.2.2.2.2.2.1),r6.1.2.2.2.2.2.2.2.2.2.2.2.2.2.2.2)
     else some (x1.2.1,(0:Int))).bind fun x7=>
    bif decide (x7.2=0) then
     some (Sum.inr (((0:Int),[],[],[],[],(0:Int),(0:Int),(0:Int),(0:Int),(0:Int),(0:Int),(0:Int),[],(0:Int),[]),false))
    else some (Sum.inl (x1.1,x7.1)):Option ((eH × eH) ⊕ (eH × Bool))).bind fun y=>match y with
   | .inl x8=>
    self2 (x8.1,x8.2,IntKind.wrap .i64 (x1.2.2+1))
   | .inr x8=>
    some (Sum.inr (x8.1,x8.2))
  else some (Sum.inl (x1.1,x1.2.1))) (((0:Int),[],[],[],[],(0:Int),(0:Int),(0:Int),(0:Int),(0:Int),(0:Int),(0:Int),[],(0:Int),[]),(r0.1.1,r0.1.2.1,r0.1.2.2.1,r0.1.2.2.2.1,r0.1.2.2.2.2.1,r0.1.2.2.2.2.2.1,r0.1.2.2.2.2.2.2.1,r0.1.2.2.2.2.2.2.2.1,r0.1.2.2.2.2.2.2.2.2.1,r0.1.2.2.2.2.2.2.2.2.2.1,r0.1.2.2.2.2.2.2.2.2.2.2.1,r0.1.2.2.2.2.2.2.2.2.2.2.2.1,r0.1.2.2.2.2.2.2.2.2.2.2.2.2.1,r0.1.2.2.2.2.2.2.2.2.2.2.2.2.2.1,r0.1.2.2.2.2.2.2.2.2.2.2.2.2.2.2.1),(0:Int))).bind fun y=>match y with
 | .inl x9=>
  some ((x9.2.1,x9.2.2.1,x9.2.2.2.1,x9.2.2.2.2.1,x9.2.2.2.2.2.1,x9.2.2.2.2.2.2.1,x9.2.2.2.2.2.2.2.1,x9.2.2.2.2.2.2.2.2.1,x9.2.2.2.2.2.2.2.2.2.1,x9.2.2.2.2.2.2.2.2.2.2.1,x9.2.2.2.2.2.2.2.2.2.2.2.1,x9.2.2.2.2.2.2.2.2.2.2.2.2.1,x9.2.2.2.2.2.2.2.2.2.2.2.2.2.1,x9.2.2.2.2.2.2.2.2.2.2.2.2.2.2.1,x9.2.2.2.2.2.2.2.2.2.2.2.2.2.2.2,true),())
 | .inr x9=>
  some ((x9.1.1,x9.1.2.1,x9.1.2.2.1,x9.1.2.2.2.1,x9.1.2.2.2.2.1,x9.1.2.2.2.2.2.1,x9.1.2.2.2.2.2.2.1,x9.1.2.2.2.2.2.2.2.1,x9.1.2.2.2.2.2.2.2.2.1,x9.1.2.2.2.2.2.2.2.2.2.1,x9.1.2.2.2.2.2.2.2.2.2.2.1,x9.1.2.2.2.2.2.2.2.2.2.2.2.1,x9.1.2.2.2.2.2.2.2.2.2.2.2.2.1,x9.1.2.2.2.2.2.2.2.2.2.2.2.2.2.1,x9.1.2.2.2.2.2.2.2.2.2.2.2.2.2.2,x9.2),()):=by kernel_rfl
def UK:TC:=
 (zS [p_ 6 1000000007,bz 7] (zS [df 13 0 1,zMx 15 110 13 14 12,zDc 12 15 16 12,uo 17 12 15,p_ 8 1000000009,rY 8 16 8 16] (zQ (.join [⟨8,bC,false⟩,⟨9,[.b],false⟩] 9223372036854517504 none (zS [bK 10] (.block 0 (.loop [⟨8,bC,false⟩,⟨9,[.b],false⟩,⟨10,[.i .i64],false⟩] 9223372036854517504 (zQ (.seq (.join [⟨24,[.b],false⟩] 33292288 none (zR [BR 18 10 2,BS 22 21 9 4,oW 22 23 24])) (zC 24 .skip (.exit 0))) (zQ (.join [⟨8,bC,false⟩,⟨9,[.b],false⟩] 9223372036720560896 none (.block 1 (zS [bK 11] (zQ (.join [⟨8,bC,false⟩,⟨11,[.i .i64],false⟩] 2305843009079478528 none (zS [df 27 2 10,SQ 29 27 28 14] (.block 2 (zS [Td 33 31 1] (zC 32 (zR [df 36 2 10,jf 35 8 15,Oe 38 36 37,[o1 40 (.load 36 [(0,14)] 1 (.t 39) 4 false)],jI 41 11 35 40,zLA 41 34 41 15,[o4 2 [8,42,35] (.store 8 [] 0 .nil (.t 42))],au 11 43]) (zS [yF 45 31 2 44] (zC 44 (zR [df 48 2 10,df 53 2 10,jf 47 8 15,zMf 50 48 49 14 5,Oe 55 53 54,[o1 57 (.load 53 [(0,14)] 6 (.t 56) 4 false)],DL 58 19 47 52 57,zLA 58 46 58 15,[o4 2 [8,59,47] (.store 8 [] 0 .nil (.t 59))],au 11 60]) .skip))))))) (zR [au 61 11,zDi 62 61 0,au 9 62]))))) (zR [Ju 25 10]))))))) (zQ (zS [au 63 9,jN 64 63] (zC 64 (zS [zBp 65,FY 6 65 6 65] .ret) .skip)) (zS [jf 66 8 15,gz 67 51 66,iZ 6 67 6 67,gX 7] .ret)))))
def UL:aL:=⟨[.rd false [.d],.rd false [.d],.rd false Ct2],(.tup [(true,15),(false,1)] Ct0)⟩
def UM:aK:=aD [(110,KI),(11,acd),(19,ach),(51,Ct)]
def IE (n:Nat):Int × Int × (List Zt7)->Option (Zt1 × Unit):=aH n UM UK [[.i .i64],[.i .i64],yn] Ty1 [] [6,7] .no
def IG:=IE BIG
def UN:TSp:=⟨UL,[[.i .i64],[.i .i64],yn],Ty1,[],Ou.j .no,IG⟩
theorem als:zK UM 31 UL UK 68 .no [6,7]:=by show _=_;kernel_rfl
theorem aiG:UN.Ok PG 31:=aO (ae Tj (ae ah2 (ae aii (ae H6 (ay PG))))) als (by kernel_rfl)
theorem alu (n) (a0) (a1) (a2):IE n (a0,a1,a2) = (tq (a0,a1)).bind fun r0=> (aJ n (X:=eH × Bool × Int) (B:=eH × Bool) (fun self2 x1=> (bif decide (x1.2.2<(a2.length:Int)) then some x1.2.1 else some false).bind fun x3=> bif x3 then ((bnd a2.length x1.2.2 fun n4=> a2[n4]?.bind fun y5=> bif decide (y5.1=1) then bnd a2.length x1.2.2 fun n6=> a2[n6]?.bind fun y7=> (Db (x1.1,(y7.2.1,y7.2.2.1,y7.2.2.2.1,y7.2.2.2.2.1))).bind fun r8=> some ((r8.1.1,r8.1.2.1,r8.1.2.2.1,r8.1.2.2.2.1,r8.1.2.2.2.2.1,r8.1.2.2.2.2.2.1,r8.1.2.2.2.2.2.2.1,r8.1.2.2.2.2.2.2.2.1,r8.1.2.2.2.2.2.2.2.2.1,r8.1.2.2.2.2.2.2.2.2.2.1,r8.1.2.2.2.2.2.2.2.2.2.2.1,r8.1.2.2.2.2.2.2.2.2.2.2.2.1,r8.1.2.2.2.2.2.2.2.2.2.2.2.2.1,r8.1.2.2.2.2.2.2.2.2.2.2.2.2.2.1,r8.1.2.2.2.2.2.2.2.2.2.2.2.2.2.2.1),r8.1.2.2.2.2.2.2.2.2.2.2.2.2.2.2.2) else bif decide (y5.1=2) then bnd a2.length x1.2.2 fun n9=> a2[n9]?.bind fun y10=> bnd a2.length x1.2.2 fun n11=> a2[n11]?.bind fun y12=> (zm (x1.1,y10.2.2.2.2.2.1,(y12.2.2.2.2.2.2.1,y12.2.2.2.2.2.2.2.1,y12.2.2.2.2.2.2.2.2.1,y12.2.2.2.2.2.2.2.2.2.1))).bind fun r13=> some ((r13.1.1,r13.1.2.1,r13.1.2.2.1,r13.1.2.2.2.1,r13.1.2.2.2.2.1,r13.1.2.2.2.2.2.1,r13.1.2.2.2.2.2.2.1,r13.1.2.2.2.2.2.2.2.1,r13.1.2.2.2.2.2.2.2.2.1,r13.1.2.2.2.2.2.2.2.2.2.1,r13.1.2.2.2.2.2.2.2.2.2.2.1,r13.1.2.2.2.2.2.2.2.2.2.2.2.1,r13.1.2.2.2.2.2.2.2.2.2.2.2.2.1,r13.1.2.2.2.2.2.2.2.2.2.2.2.2.2.1,r13.1.2.2.2.2.2.2.2.2.2.2.2.2.2.2.1),r13.1.2.2.2.2.2.2.2.2.2.2.2.2.2.2.2) else some (x1.1,(0:Int))).bind fun x14=> some (x14.1,!decide (x14.2=0)):Option (eH × Bool)).bind fun x15=> self2 (x15.1,x15.2,IntKind.wrap .i64 (x1.2.2+1)) else some (x1.1,x1.2.1)) ((r0.1.1,r0.1.2.1,r0.1.2.2.1,r0.1.2.2.2.1,r0.1.2.2.2.2.1,r0.1.2.2.2.2.2.1,r0.1.2.2.2.2.2.2.1,r0.1.2.2.2.2.2.2.2.1,r0.1.2.2.2.2.2.2.2.2.1,r0.1.2.2.2.2.2.2.2.2.2.1,r0.1.2.2.2.2.2.2.2.2.2.2.1,r0.1.2.2.2.2.2.2.2.2.2.2.2.1,r0.1.2.2.2.2.2.2.2.2.2.2.2.2.1,r0.1.2.2.2.2.2.2.2.2.2.2.2.2.2.1,r0.1.2.2.2.2.2.2.2.2.2.2.2.2.2.2.1),r0.1.2.2.2.2.2.2.2.2.2.2.2.2.2.2.2,(0:Int))).bind fun x16=> bif !x16.2 then some (((0:Int),[],[],[],[],(0:Int),(0:Int),(0:Int),(0:Int),(0:Int),(0:Int),(0:Int),[],(0:Int),[],false),()) else (nV x16.1).bind fun r17=> some ((r17.1.1,r17.1.2.1,r17.1.2.2.1,r17.1.2.2.2.1,r17.1.2.2.2.2.1,r17.1.2.2.2.2.2.1,r17.1.2.2.2.2.2.2.1,r17.1.2.2.2.2.2.2.2.1,r17.1.2.2.2.2.2.2.2.2.1,r17.1.2.2.2.2.2.2.2.2.2.1,r17.1.2.2.2.2.2.2.2.2.2.2.1,r17.1.2.2.2.2.2.2.2.2.2.2.2.1,r17.1.2.2.2.2.2.2.2.2.2.2.2.2.1,r17.1.2.2.2.2.2.2.2.2.2.2.2.2.2.1,r17.1.2.2.2.2.2.2.2.2.2.2.2.2.2.2,true),()):=by kernel_rfl
def UO:TC:=
 (zS [bz 4] (zQ (zS [w_ 6 0 6,w_ 8 1 8,wY 10 7 9] (zC 10 (zS [bz 4] .ret) .skip)) (zQ (.join [] 67106864 (some [⟨4,[.b],false⟩]) (zS [bK 5] (.block 0 (.loop [⟨5,[.i .i64],false⟩] 67106864 (zQ (zS [BR 11 5 0] (zC 14 .skip (.exit 0))) (zQ (.block 1 (zS [df 17 0 5,df 21 1 5,kN 19 17 18 6 6,kN 23 21 22 6 6,[o1 25 (.eqA [.i,.i,.i,.i,.i,.i] (.t 20) (.t 24) true)]] (zC 25 (zS [bz 4] .ret) .skip))) (zR [gY 15 5 5]))))))) (zS [gX 4] .ret))))
def UQ:aL:=⟨[.rd false Ct8,.rd false Ct8],(.one false [.d])⟩
def UR:aK:=aD []
def II (n:Nat):(List ve) × (List ve)->Option ((Bool) × Unit):=aH n UR UO [N7,N7] [.b] [] [4] .no
def qz:=II BIG
def UT:TSp:=⟨UQ,[N7,N7],[.b],[],Ou.j .no,qz⟩
theorem alx:zK UR 17 UQ UO 26 .no [4]:=by show _=_;kernel_rfl
theorem aiH:UT.Ok PG 17:=aO (ay PG) alx (by kernel_rfl)
theorem aly (n) (a0) (a1):II n (a0,a1) = bif !decide ((a0.length:Int)=(a1.length:Int)) then some (false,()) else (aJ n (X:=Int) (B:=(Unit) ⊕ (Bool)) (fun self1 x0=> bif decide (x0<(a0.length:Int)) then bnd a0.length x0 fun n2=> a0[n2]?.bind fun y3=> bnd a1.length x0 fun n4=> a1[n4]?.bind fun y5=> bif !(decide (y3.1=y5.1)&&(decide (y3.2.1=y5.2.1)&&(decide (y3.2.2.1=y5.2.2.1)&&(decide (y3.2.2.2.1=y5.2.2.2.1)&&(decide (y3.2.2.2.2.1=y5.2.2.2.2.1)&&(decide (y3.2.2.2.2.2=y5.2.2.2.2.2)&&true)))))) then some (Sum.inr false) else self1 (IntKind.wrap .i64 (x0+1)) else some (Sum.inl ())) (0:Int)).bind fun y=>match y with | .inl x6=> some (true,()) | .inr x6=> some (x6,()):=by kernel_rfl
def P_:TC:=
 (zS [bz 4] (zQ (zS [w_ 6 0 6,w_ 8 1 8,wY 10 7 9] (zC 10 (zS [bz 4] .ret) .skip)) (zQ (.join [] 67106864 (some [⟨4,[.b],false⟩]) (zS [bK 5] (.block 0 (.loop [⟨5,[.i .i64],false⟩] 67106864 (zQ (zS [BR 11 5 0] (zC 14 .skip (.exit 0))) (zQ (.block 1 (zS [df 17 0 5,df 21 1 5,kN 19 17 18 2 2,kN 23 21 22 2 2,zEk 25 20 24] (zC 25 (zS [bz 4] .ret) .skip))) (zR [gY 15 5 5]))))))) (zS [gX 4] .ret))))
def Qa:aL:=⟨[.rd false iG,.rd false iG],(.one false [.d])⟩
def Qb:aK:=aD []
def EA (n:Nat):(List aP) × (List aP)->Option ((Bool) × Unit):=aH n Qb P_ [[.sl [.i .i64,.i .i64]],[.sl [.i .i64,.i .i64]]] [.b] [] [4] .no
def EB:=EA BIG
def Qc:TSp:=⟨Qa,[[.sl [.i .i64,.i .i64]],[.sl [.i .i64,.i .i64]]],[.b],[],Ou.j .no,EB⟩
theorem aiI:zK Qb 20 Qa P_ 26 .no [4]:=by show _=_;kernel_rfl
theorem afP:Qc.Ok PG 20:=aO (ay PG) aiI (by kernel_rfl)
theorem aiJ (n) (a0) (a1):EA n (a0,a1) = bif !decide ((a0.length:Int)=(a1.length:Int)) then some (false,()) else (aJ n (X:=Int) (B:=(Unit) ⊕ (Bool)) (fun self1 x0=> bif decide (x0<(a0.length:Int)) then bnd a0.length x0 fun n2=> a0[n2]?.bind fun y3=> bnd a1.length x0 fun n4=> a1[n4]?.bind fun y5=> bif !(decide (y3.1=y5.1)&&(decide (y3.2=y5.2)&&true)) then some (Sum.inr false) else self1 (IntKind.wrap .i64 (x0+1)) else some (Sum.inl ())) (0:Int)).bind fun y=>match y with | .inl x6=> some (true,()) | .inr x6=> some (x6,()):=by kernel_rfl
def UU:TC:=
 (zS [bz 4] (zQ (zS [w_ 6 0 6,w_ 8 1 8,wY 10 7 9] (zC 10 (zS [bz 4] .ret) .skip)) (zQ (.join [] 67106864 (some [⟨4,[.b],false⟩]) (zS [bK 5] (.block 0 (.loop [⟨5,[.i .i64],false⟩] 67106864 (zQ (zS [BR 11 5 0] (zC 14 .skip (.exit 0))) (zQ (.block 1 (zS [df 17 0 5,df 21 1 5,nz 19 17 18 1,nz 23 21 22 1,wY 25 20 24] (zC 25 (zS [bz 4] .ret) .skip))) (zR [gY 15 5 5]))))))) (zS [gX 4] .ret))))
def UV:aL:=⟨[.rd false fF,.rd false fF],(.one false [.d])⟩
def UW:aK:=aD []
def IJ (n:Nat):List Int × List (Int)->Option ((Bool) × Unit):=aH n UW UU [[.sl [.i .i64]],[.sl [.i .i64]]] [.b] [] [4] .no
def IK:=IJ BIG
def UX:TSp:=⟨UV,[[.sl [.i .i64]],[.sl [.i .i64]]],[.b],[],Ou.j .no,IK⟩
theorem alz:zK UW 21 UV UU 26 .no [4]:=by show _=_;kernel_rfl
theorem aiK:UX.Ok PG 21:=aO (ay PG) alz (by kernel_rfl)
theorem alA (n) (a0) (a1):IJ n (a0,a1) = bif !decide ((a0.length:Int)=(a1.length:Int)) then some (false,()) else (aJ n (X:=Int) (B:=(Unit) ⊕ (Bool)) (fun self1 x0=> bif decide (x0<(a0.length:Int)) then bnd a0.length x0 fun n2=> a0[n2]?.bind fun y3=> bnd a1.length x0 fun n4=> a1[n4]?.bind fun y5=> bif !decide (y3=y5) then some (Sum.inr false) else self1 (IntKind.wrap .i64 (x0+1)) else some (Sum.inl ())) (0:Int)).bind fun y=>match y with | .inl x6=> some (true,()) | .inr x6=> some (x6,()):=by kernel_rfl
def M9:TC:=
 (zS [yu 2] (zS [au 6 0,gz 7 37 6,dA 3] (zS [rV 8 3,[⟨false,[],[],.call 2 111 [.t 7] (.mp 0),[9,7],(some 9),none⟩]] (zS [Tc 10 4] (zQ (.join [⟨4,[.sl [.i .i64]],false⟩] 1046704 none (zS [bK 5] (.block 0 (.loop [⟨4,[.sl [.i .i64]],false⟩,⟨7,gT,false⟩,⟨5,[.i .i64],false⟩] 1046704 (zQ (zS [au 11 5,[o1 12 (.data (.bin .lss) [.t 11,kD 12])]] (zC 12 .skip (.exit 0))) (zQ (.block 1 (zR [dC 4 15 4,rV 16 3,zAB 7 10000 17 7 17,Jo 18 17,MM 15 18 19 15 4])) (zR [gY 13 5 5]))))))) (zS [tO 4 20 4 2] .ret))))))
def M_:aL:=⟨[.rd false fF],(.one false fF)⟩
def Na:aK:=aD [(37,FZ),(111,KH),(112,l_)]
def BB (n:Nat):List (Int)->Option ((List Int) × Unit):=aH n Na M9 [[.sl [.i .u8]]] [.sl [.i .i64]] [] [2] .no
def uP:=BB BIG
def Nc:TSp:=⟨M_,[[.sl [.i .u8]]],[.sl [.i .i64]],[],Ou.j .no,uP⟩
theorem afQ:zK Na 32 M_ M9 21 .no [2]:=by show _=_;kernel_rfl
theorem acu:Nc.Ok PG 32:=aO (ae KF (ae Te (ae mO (ay PG)))) afQ (by kernel_rfl)
theorem afR (n) (a0):BB n a0 = (vW a0).bind fun r0=> (lT r0.1).bind fun r1=> (aJ n (X:=(List Int) × (List Int × Int × Int) × Int) (B:=(List Int)) (fun self3 x2=> bif decide (x2.2.2<12) then (fG (x2.2.1,(10000:Int))).bind fun r4=> bif decide (x2.1.length+[r4.1].length<=4294967296) then self3 (x2.1++[r4.1],r4.2,IntKind.wrap .i64 (x2.2.2+1)) else none else some x2.1) ([],r1.2,(0:Int))).bind fun x5=> some (x5,()):=by kernel_rfl
def aah:TC:=
 (zS [bz 4] (zS [dA 5,au 6 1,SG 112 6 7 7,wX 8 7 0,au 4 8] .ret))
def aai:aL:=⟨[.mp [.sl (.ro []) [.d],.d,.d],.rd false [.d]],(.one false [.d])⟩
def aaj:aK:=aD [(112,l_)]
def LG (n:Nat):(List Int × Int × Int) × Int->Option ((Bool) × List Int × Int × Int):=aH n aaj aah [gT,[.i .i64]] [.b] gT [4] (.mp 0)
def xK:=LG BIG
def aak:TSp:=⟨aai,[gT,[.i .i64]],[.b],gT,Ou.j (.mp 0),xK⟩
theorem aqh:zK aaj 77 aai aah 9 (.mp 0) [4]:=by show _=_;kernel_rfl
theorem alB:aak.Ok PG 77:=aO (ae mO (ay PG)) aqh (by kernel_rfl)
theorem aqi (n) (a0) (a1):LG n (a0,a1) = (fG (a0,a1)).bind fun r0=> some (decide (r0.1=0),r0.2):=by kernel_rfl
def EC:TC:=
 (zS [bK 2,bK 3,zIt 4] (zS [au 10 0,gz 11 37 10,dA 5] (zS [rV 13 5,au 14 0,Od 108 11 14 1 15 11 15,dC 15 12 15,uo 16 12 0,uo 17 12 1,zIm 12 2 1 18 12,yD 6 16,zIp 18 18 8 18 8] (zQ (.join [⟨8,yn,false⟩] 1099511106304 none (zQ (.join [⟨11,gT,false⟩,⟨25,[.b],false⟩] 66586624 none (zR [au 19 8,l9 20 19,Yn 21 20 0,au 22 21,zJf 23 5 3,[⟨false,[],[],.call 2 77 [.t 11,kO 5] (.mp 0),[24,11],(some 24),some (3,true)⟩],oW 22 24 25])) (zC 25 (zS [rV 26 5,au 27 8,l9 28 27,zGB 112 11 28 29 11 29,au 9 29] (zR [df 31 8 9,df 35 8 9,[o1 30 (.sli Ty6 []),⟨true,[],[],.det 1 (.res 31 none (some (.t 32))),[33],(some 33),none⟩],zIB 30 30 33 34 30 30 34,BK 37 36,[⟨true,[],[],.det 1 (.res 35 (some (.t 37)) none),[38],(some 38),none⟩],yw 34 38 39 34,zIp 39 39 8 39 8])) .skip))) (zS [df 40 6 8,nU 2 1,yD 3 40] .ret)))))
def EE:aL:=⟨[.rd false fF],(.tup [(false,1),(false,1),(false,1)] [.d,.d,.sl (.ro [0]) [.d,.d,.d,.d,.d,.d,.d,.d,.sl (.ro [0]) [.d,.d],.sl (.ro [0]) [.d],.d,.d,.sl (.ro [0]) [.d,.d],.d]])⟩
def EF:aK:=aD [(37,FZ),(108,Lp),(77,aak),(112,l_)]
def vE (n:Nat):List (Int)->Option (Zt5 × Unit):=aH n EF EC [[.sl [.i .u8]]] Ty3 [] [2,3,4] .no
def vG:=vE BIG
def EG:TSp:=⟨EE,[[.sl [.i .u8]]],Ty3,[],Ou.j .no,vG⟩
theorem WR:zK EF 33 EE EC 42 .no [2,3,4]:=by show _=_;kernel_rfl
theorem Sw:EG.Ok PG 33:=aO (ae KF (ae Ug (ae alB (ae mO (ay PG))))) WR (by kernel_rfl)
theorem WS (n) (a0):vE n a0 = (vW a0).bind fun r0=> (CJ (r0.1,a0,(1:Int))).bind fun r1=> ((bif decide (0<(r1.1.2.2.length:Int)) then (xK (r1.2,(5:Int))).bind fun r2=> some (r2.2,r2.1) else some (r1.2,false)).bind fun x3=> bif x3.2 then (fG (x3.1,(r1.1.2.2.length:Int))).bind fun r4=> bif decide (0<=r4.1) then bif decide (0<=(Int.toNat r4.1)/\(Int.toNat r4.1)<=r1.1.2.2.length) then bif decide (0+(List.take ((Int.toNat r4.1)-0) (List.drop 0 r1.1.2.2)).length<=4294967296) then bif decide (0<=(IntKind.wrap .i64 (r4.1+1))) then bif decide ((Int.toNat (IntKind.wrap .i64 (r4.1+1)))<=r1.1.2.2.length/\r1.1.2.2.length<=r1.1.2.2.length) then bif decide (([]++(List.take ((Int.toNat r4.1)-0) (List.drop 0 r1.1.2.2))).length+(List.take (r1.1.2.2.length-(Int.toNat (IntKind.wrap .i64 (r4.1+1)))) (List.drop (Int.toNat (IntKind.wrap .i64 (r4.1+1))) r1.1.2.2)).length<=4294967296) then some (([]++(List.take ((Int.toNat r4.1)-0) (List.drop 0 r1.1.2.2)))++(List.take (r1.1.2.2.length-(Int.toNat (IntKind.wrap .i64 (r4.1+1)))) (List.drop (Int.toNat (IntKind.wrap .i64 (r4.1+1))) r1.1.2.2))) else none else none else none else none else none else none else some r1.1.2.2:Option ((List YB))).bind fun x5=> some (((1:Int),r1.1.1,x5),()):=by kernel_rfl
def aeZ:TC:=
 (zS [DI 2 1000000003,bz 3] (zQ (zS [au 4 0,oZ 5 48 4 12,jN 6 5] (zC 6 (zS [zBD 7,FY 2 7 2 7] .ret) .skip)) (zS [au 8 0,zBE 9 8,iZ 2 9 2 9,gX 3] .ret)))
def ae0:aL:=⟨[.rd false [.d]],(.tup [(true,2),(false,1)] Ct7)⟩
def ae1:aK:=aD [(48,kX)]
def Qd (n:Nat):Int->Option (apg × Unit):=aH n ae1 aeZ [[.i .i64]] N8 [] [2,3] .no
def Qe:=Qd BIG
def ae2:TSp:=⟨ae0,[[.i .i64]],N8,[],Ou.j .no,Qe⟩
theorem atK:zK ae1 178 ae0 aeZ 10 .no [2,3]:=by show _=_;kernel_rfl
theorem aqj:ae2.Ok PG 178:=aO (ae jQ (ay PG)) atK (by kernel_rfl)
theorem atL (n) (a0):Qd n a0 = (fq (a0,(1:Int),(12:Int))).bind fun r0=> bif !r0.1 then some (((0:Int),[],false),()) else some ((a0,[],true),()):=by kernel_rfl
def UY:TC:=
 (zS [DJ 4 1000000005,bz 5] (zS [au 9 1,Yy 10 178 9 8,zDc 8 2 11 8,uo 12 8 2,DI 6 1000000007,rY 6 11 6 11] (zQ (.seq (.join [⟨19,[.b],false⟩] 1040384 none (zR [au 13 0,oZ 14 48 13 3,Jw 15 14 7 3,tN 18 17 3 16])) (zC 19 (zS [zDe 20,FY 4 20 4 20] .ret) .skip)) (zS [au 21 0,jf 22 6 2,zDf,iZ 4 23 4 23,gX 5] .ret))))
def UZ:aL:=⟨[.rd false [.d],.rd false [.d]],(.tup [(true,7),(false,1)] Ct3)⟩
def U0:aK:=aD [(178,ae2),(48,kX)]
def IL (n:Nat):Int × Int->Option (Zt8 × Unit):=aH n U0 UY [[.i .i64],[.i .i64]] Ty8 [] [4,5] .no
def IM:=IL BIG
def U1:TSp:=⟨UZ,[[.i .i64],[.i .i64]],Ty8,[],Ou.j .no,IM⟩
theorem alC:zK U0 113 UZ UY 24 .no [4,5]:=by show _=_;kernel_rfl
theorem aiL:U1.Ok PG 113:=aO (ae aqj (ae jQ (ay PG))) alC (by kernel_rfl)
theorem alD (n) (a0) (a1):IL n (a0,a1) = (Qe a1).bind fun r0=> ((fq (a0,(1:Int),(3:Int))).bind fun r1=> bif !r1.1 then some true else some !r0.1.2.2).bind fun x2=> bif x2 then some (((0:Int),(0:Int),[],(0:Int),false,[],[],false),()) else some ((a0,r0.1.1,r0.1.2.1,(0:Int),false,[],[],true),()):=by kernel_rfl
def aal:TC:=
 (zS [dK 1 0,zGC 2 1000000003] (zS [iP 6 1 0 6,[o1 8 (.build kM [(0,.t 7)])],zGC 3 1000000004,iZ 3 8 3 8] (zQ (.join [⟨3,kM,false⟩] 134217256 none (zS [iP 9 1 1 9,rX 11 10] (.block 0 (.loop [⟨3,kM,false⟩,⟨12,[.i .i64],false⟩] 134213672 (zS [gy 13 12 11] (zQ (zC 13 .skip (.exit 0)) (zQ (.block 1 (zS [kN 14 10 12 4 4,SI 5 1000000006,dR 5 5 15] (zR [uq 16 3 1,o9 18 5 0 5 1,MK 22 19 21,zGh 23 22,Yv 17 17 23 24 17 17 3 24 3 3 1]))) (zR [mM 26 12])))))))) (zS [w9 27 3 2 2 2 3] .ret))))
def aam:aL:=⟨[.rd true nE],(.one true Oa)⟩
def aan:aK:=aD []
def LH (n:Nat):eB->Option (Bu × Unit):=aH n aan aal [bH] kM [] [2] .no
def lV:=LH BIG
def xL:TSp:=⟨aam,[bH],kM,[],Ou.j .no,lV⟩
theorem aqk:zK aan 150 aam aal 28 .no [2]:=by show _=_;kernel_rfl
theorem Am:xL.Ok PG 150:=aO (ay PG) aqk (by kernel_rfl)
theorem aql (n) (a0):LH n a0 = (aJ n (X:=Bu × Int) (B:=Bu) (fun self1 x0=> bif decide (x0.2<(a0.2.length:Int)) then bnd a0.2.length x0.2 fun n2=> a0.2[n2]?.bind fun y3=> bif decide (x0.1.2.length+([(y3.1,y3.2.1)]).length<=4294967296) then self1 ((x0.1.1,x0.1.2++([(y3.1,y3.2.1)])),IntKind.wrap .i64 (x0.2+1)) else none else some x0.1) ((a0.1,[]),(0:Int))).bind fun x4=> some (x4,()):=by kernel_rfl
def aao:TC:=
 (zS [kP 1 0] (zQ (.join [⟨2,[.b],false⟩] 8188 none (zR [iP 3 1 0 3,oZ 5 48 4 12,au 6 5,qV 7 3,BL 8 1 0 7 3,qV 9 3,BL 10 1 1 9 3,qa 144 8 10 11 11 3,nA 6 11 12 2])) .ret))
def aap:aL:=⟨[.rd true Oa],(.one false [.d])⟩
def aaq:aK:=aD [(48,kX),(144,xH)]
def LJ (n:Nat):Bu->Option ((Bool) × Unit):=aH n aaq aao [kM] [.b] [] [2] .no
def CP:=LJ BIG
def LK:TSp:=⟨aap,[kM],[.b],[],Ou.j .no,CP⟩
theorem aqm:zK aaq 193 aap aao 13 .no [2]:=by show _=_;kernel_rfl
theorem U2:LK.Ok PG 193:=aO (ae jQ (ae Ai (ay PG))) aqm (by kernel_rfl)
theorem aqn (n) (a0):LJ n a0 = ((fq (a0.1,(1:Int),(12:Int))).bind fun r0=> bif r0.1 then (tC (a0.1,a0.2)).bind fun r1=> some r1.1 else some false).bind fun x2=> some (x2,()):=by kernel_rfl
def Qf:TC:=
 (zS [dK 1 0,AR 2] (zS [AR 3] (zQ (.join [⟨3,[.sl [.i .i64,.i .i64]],false⟩] 16777192 none (zS [iP 6 1 1 6,rX 8 7] (.block 0 (.loop [⟨3,[.sl [.i .i64,.i .i64]],false⟩,⟨9,[.i .i64],false⟩] 16776744 (zS [gy 10 9 8] (zQ (zC 10 .skip (.exit 0)) (zQ (.join [⟨3,[.sl [.i .i64,.i .i64]],false⟩] 8386600 none (.block 1 (zS [Og 11 7 9 7 4 4,SI 5 1000000006,dR 5 5 12] (zS [bO 13 5 3] (zC 14 (zR [dC 3 15 3,o9 16 5 0 5 1,MK 20 17 19,Jv 21 20 15 15 3]) .skip))))) (zR [BK 23 9,au 9 23])))))))) (zS [tO 3 24 3 2] .ret))))
def Qg:aL:=⟨[.rd true nE],(.one false iG)⟩
def Qh:aK:=aD []
def EH (n:Nat):eB->Option ((List aP) × Unit):=aH n Qh Qf [bH] [.sl [.i .i64,.i .i64]] [] [2] .no
def EJ:=EH BIG
def Qi:TSp:=⟨Qg,[bH],[.sl [.i .i64,.i .i64]],[],Ou.j .no,EJ⟩
theorem aiM:zK Qh 195 Qg Qf 25 .no [2]:=by show _=_;kernel_rfl
theorem afS:Qi.Ok PG 195:=aO (ay PG) aiM (by kernel_rfl)
theorem aiN (n) (a0):EH n a0 = (aJ n (X:=(List aP) × Int) (B:=(List aP)) (fun self1 x0=> bif decide (x0.2<(a0.2.length:Int)) then (bnd a0.2.length x0.2 fun n2=> a0.2[n2]?.bind fun y3=> bif y3.2.2.2 then bif decide (x0.1.length+([(y3.1,y3.2.1)]).length<=4294967296) then some (x0.1++([(y3.1,y3.2.1)])) else none else some x0.1:Option ((List aP))).bind fun x4=> self1 (x4,IntKind.wrap .i64 (x0.2+1)) else some x0.1) ([],(0:Int))).bind fun x5=> some (x5,()):=by kernel_rfl
def aiO:TC:=
 (zS [bz 4] (zS [au 8 0,gz 9 177 8,dC 9 5 9] (zQ (.join [] 16776368 (some [⟨4,[.b],false⟩]) (zS [MN 10 1] (.block 0 (.loop [⟨5,[.sl [.i .i64]],false⟩,⟨12,[.i .i64],false⟩] 16773296 (zS [gy 13 12 11] (zQ (zC 13 .skip (.exit 0)) (zQ (.block 1 (zS [kN 14 10 12 2 2,qX 7 1000000008,dR 7 7 15] (zS [gN 16 5,o9 17 7 0 7 1,zIE 16 18 20 5 16 21 5 16 21,jN 22 21] (zC 22 (zS [gX 4] .ret) .skip)))) (zR [mM 23 12])))))))) (zS [bz 4] .ret))))
def aiP:aL:=⟨[.rd false [.d],.rd false iG],(.one false [.d])⟩
def aiQ:aK:=aD [(177,Em),(188,LC)]
def WU (n:Nat):Int × (List aP)->Option ((Bool) × Unit):=aH n aiQ aiO [[.i .i64],[.sl [.i .i64,.i .i64]]] [.b] [] [4] .no
def WV:=WU BIG
def aiR:TSp:=⟨aiP,[[.i .i64],[.sl [.i .i64,.i .i64]]],[.b],[],Ou.j .no,WV⟩
theorem awg:zK aiQ 194 aiP aiO 24 .no [4]:=by show _=_;kernel_rfl
theorem atM:aiR.Ok PG 194:=aO (ae Gq (ae PQ (ay PG))) awg (by kernel_rfl)
theorem awh (n) (a0) (a1):WU n (a0,a1) = (zq a0).bind fun r0=> (aJ n (X:=(List Int) × Int) (B:=(Unit) ⊕ (Bool)) (fun self2 x1=> bif decide (x1.2<(a1.length:Int)) then bnd a1.length x1.2 fun n3=> a1[n3]?.bind fun y4=> (zu (x1.1,y4.1,y4.2)).bind fun r5=> bif !r5.1 then some (Sum.inr true) else self2 (r5.2,IntKind.wrap .i64 (x1.2+1)) else some (Sum.inl ())) (r0.1,(0:Int))).bind fun y=>match y with | .inl x6=> some (false,()) | .inr x6=> some (x6,()):=by kernel_rfl
def ae3:TC:=
 (zS [dK 2 0,AR 4] (zS [AR 5] (zQ (.join [⟨5,[.sl [.i .i64,.i .i64]],false⟩] 4294967200 none (zS [iP 8 2 1 8,rX 10 9] (.block 0 (.loop [⟨5,[.sl [.i .i64,.i .i64]],false⟩,⟨11,[.i .i64],false⟩] 4294965408 (zS [gy 12 11 10] (zQ (zC 12 .skip (.exit 0)) (zQ (.join [⟨5,[.sl [.i .i64,.i .i64]],false⟩] 2147475616 none (.block 1 (zS [Og 13 9 11 9 4 4,SI 7 1000000008,dR 7 7 14] (zQ (.join [⟨22,[.b],false⟩] 8355840 none (zR [bO 15 7 3,ut 17 16 2 7 2 2,iE 20 1 2,zGE 21 19 20 2,oW 17 21 22])) (zC 22 (zR [dC 5 23 5,o9 24 7 0 7 1,MK 28 25 27,Jv 29 28 23 23 5]) .skip))))) (zR [mM 31 11])))))))) (zS [tO 5 32 5 4] .ret))))
def ae4:aL:=⟨[.rd true nE,.rd false [.d]],(.one false iG)⟩
def ae5:aK:=aD []
def Qj (n:Nat):eB × Int->Option ((List aP) × Unit):=aH n ae5 ae3 [bH,[.i .i64]] [.sl [.i .i64,.i .i64]] [] [4] .no
def Gw:=Qj BIG
def Qk:TSp:=⟨ae4,[bH,[.i .i64]],[.sl [.i .i64,.i .i64]],[],Ou.j .no,Gw⟩
theorem atN:zK ae5 199 ae4 ae3 33 .no [4]:=by show _=_;kernel_rfl
theorem aar:Qk.Ok PG 199:=aO (ay PG) atN (by kernel_rfl)
theorem atO (n) (a0) (a1):Qj n (a0,a1) = (aJ n (X:=(List aP) × Int) (B:=(List aP)) (fun self1 x0=> bif decide (x0.2<(a0.2.length:Int)) then (bnd a0.2.length x0.2 fun n2=> a0.2[n2]?.bind fun y3=> (bif y3.2.2.2 then some (decide (a1<=y3.2.2.1)) else some false).bind fun x4=> bif x4 then bif decide (x0.1.length+([(y3.1,y3.2.1)]).length<=4294967296) then some (x0.1++([(y3.1,y3.2.1)])) else none else some x0.1:Option ((List aP))).bind fun x5=> self1 (x5,IntKind.wrap .i64 (x0.2+1)) else some x0.1) ([],(0:Int))).bind fun x6=> some (x6,()):=by kernel_rfl
def U3:TC:=
 (zS [dK 2 0,yu 4] (zS [iP 8 2 0 8,Yy 10 177 9 5] (zQ (.join [⟨5,[.sl [.i .i64]],false⟩] 67106976 none (zS [dM 11 2 2,au 12 1,jI 13 199 11 12,rX 14 13] (.block 0 (.loop [⟨5,[.sl [.i .i64]],false⟩,⟨15,[.i .i64],false⟩] 67076256 (zS [gy 16 15 14] (zQ (zC 16 .skip (.exit 0)) (zQ (.block 1 (zS [kN 17 13 15 2 2,qX 7 1000000008,dR 7 7 18] (zR [gN 19 5,o9 20 7 0 7 1,zIE 19 21 23 5 19 24 5 19 24]))) (zR [mM 25 15])))))))) (zS [tO 5 26 5 4] .ret))))
def U4:aL:=⟨[.rd true nE,.rd false [.d]],(.one false fF)⟩
def U5:aK:=aD [(177,Em),(199,Qk),(188,LC)]
def IP (n:Nat):eB × Int->Option ((List Int) × Unit):=aH n U5 U3 [bH,[.i .i64]] [.sl [.i .i64]] [] [4] .no
def og:=IP BIG
def qA:TSp:=⟨U4,[bH,[.i .i64]],[.sl [.i .i64]],[],Ou.j .no,og⟩
theorem alE:zK U5 154 U4 U3 27 .no [4]:=by show _=_;kernel_rfl
theorem si:qA.Ok PG 154:=aO (ae Gq (ae aar (ae PQ (ay PG)))) alE (by kernel_rfl)
theorem alF (n) (a0) (a1):IP n (a0,a1) = (zq a0.1).bind fun r0=> ((Gw (a0,a1)).bind fun r1=> aJ n (X:=(List Int) × Int) (B:=(List Int)) (fun self3 x2=> bif decide (x2.2<(r1.1.length:Int)) then bnd r1.1.length x2.2 fun n4=> r1.1[n4]?.bind fun y5=> (zu (x2.1,y5.1,y5.2)).bind fun r6=> self3 (r6.2,IntKind.wrap .i64 (x2.2+1)) else some x2.1) (r0.1,(0:Int))).bind fun x7=> some (x7,()):=by kernel_rfl
def aiS:TC:=
 (zS [bK 4] (zS [bK 5] (zQ (.join [⟨5,[.i .i64],false⟩] 1048480 none (zS [au 8 0,rX 9 8] (.block 0 (.loop [⟨5,[.i .i64],false⟩,⟨10,[.i .i64],false⟩] 1047712 (zS [gy 11 10 9] (zQ (zC 11 .skip (.exit 0)) (zQ (.join [⟨5,[.i .i64],false⟩] 520352 none (.block 1 (zS [Js 12 8 10 8 1,au 7 13] (zS [df 14 7 1,o8 16 14 15] (zC 16 (zR [gY 17 5 5]) .skip))))) (zR [mM 19 10])))))))) (zS [MQ 20 5 4] .ret))))
def aiT:aL:=⟨[.rd false fF,.rd false [.d]],(.one false [.d])⟩
def aiU:aK:=aD []
def WW (n:Nat):List Int × Int->Option ((Int) × Unit):=aH n aiU aiS [[.sl [.i .i64]],[.i .i64]] [.i .i64] [] [4] .no
def EL:=WW BIG
def WX:TSp:=⟨aiT,[[.sl [.i .i64]],[.i .i64]],[.i .i64],[],Ou.j .no,EL⟩
theorem awi:zK aiU 197 aiT aiS 21 .no [4]:=by show _=_;kernel_rfl
theorem ae6:WX.Ok PG 197:=aO (ay PG) awi (by kernel_rfl)
theorem awj (n) (a0) (a1):WW n (a0,a1) = (aJ n (X:=Int × Int) (B:=Int) (fun self1 x0=> bif decide (x0.2<(a0.length:Int)) then (bnd a0.length x0.2 fun n2=> a0[n2]?.bind fun y3=> bif decide (y3=a1) then some (IntKind.wrap .i64 (x0.1+1)) else some x0.1).bind fun x4=> self1 (x4,IntKind.wrap .i64 (x0.2+1)) else some x0.1) ((0:Int),(0:Int))).bind fun x5=> some (x5,()):=by kernel_rfl
end
end Go.Fw
