/- The given functions, as what they compute; each is shown to be what the code does. No conditions. -/
import Derived.Test.YtbdciplhpomakaaGreatX0
set_option linter.unusedSectionVars false
namespace Go.Fw
noncomputable section
def TH:TC:=
 (zS [kP 1 0] (zQ (.seq (.join [⟨17,[.b],false⟩] 261888 none (zR [iP 8 1 0 8,oZ 10 42 9 12,FX 11 10 4 1 1 4,Jr 15 14 4,zDD 16 15 12 4,qU 12 16 17])) (zC 17 (zS [bz 2] .ret) .skip)) (zS [bK 3] (zQ (.join [⟨3,[.i .i64],false⟩] 2475880078570760549797986556 (some [⟨2,[.b],false⟩]) (zS [bK 4] (.block 0 (.loop [⟨3,[.i .i64],false⟩,⟨4,[.i .i64],false⟩] 2475880078570760549797986556 (zQ (zS [Oh 18 4 1 1 21] (zC 22 .skip (.exit 0))) (zQ (.join [⟨3,[.i .i64],false⟩] 2475880078570760549764694252 (some [⟨2,[.b],false⟩]) (.block 1 (zQ (zS [FW 25 1 1 4,nz 28 26 27 1,gz 30 208 29,jN 31 30] (zC 31 (zS [bz 2] .ret) .skip)) (zS [FW 32 1 1 4,nz 35 33 34 1,Yy 37 186 36 5] (zS [au 38 3,gN 39 5,l9 40 39,zAo 41 38 40,au 3 41] (zQ (.seq (.join [⟨69,[.b],false⟩] 1180591616319364792320 none (zR [gN 42 5,gN 43 5,l9 44 43,yz 45 44,Js 46 42 45 5 1,bO 48 1 0,zAC 50 47 49,au 51 50,jH 52 4 9,zDD 53 52 0 9,jH 54 53 9,AU 55 12 1 1,iE 57 4 12,zDv 58 57 12,qW 59 56 58 12,BN 60 56 1 59 12,zHi 186 60 61 61 12,[o2 62 (.index 61 (kD 0)) 12 true],BN 63 61 1 62 12,SL 5 64 64 12,[o2 65 (.index 64 (kD 0)) 12 true],BN 66 5 1 65 12,zGE 67 63 66 12,FP 54 67 68 68 9 51])) (zC 69 (zS [bz 2] .ret) .skip)) (zS [bK 6] (.block 2 (.loop [⟨6,[.i .i64],false⟩] 2475878897979139832386945220 (zQ (zS [SY 70 6 4] (zC 72 .skip (.exit 2))) (zQ (.join [] 2475842299638897592636539012 (some [⟨2,[.b],false⟩]) (.block 3 (zS [bK 7] (.block 4 (.loop [⟨7,[.i .i64],false⟩] 2475842299638897592636539012 (zQ (zS [au 75 7,gN 76 5,yA 77 76 75] (zC 78 .skip (.exit 4))) (zQ (.block 5 (zS [au 83 6,FV 86 5 7,bO 81 1 1,nz 84 82 83 1,Js 88 86 87 5 1,jI 90 204 85 89] (zC 90 (zS [bz 2] .ret) .skip))) (zR [gY 79 7 7])))))))) (zR [gY 73 6 6])))))))))))) (zR [gY 23 4 4]))))))) (zS [SN 91 3 1 0,o8 94 91 93,au 2 94] .ret)))))
def TI:aL:=⟨[.rd true [.d,.sl (.own none) fF]],(.one false [.d])⟩
def TJ:aK:=aD [(42,fH),(208,aec),(186,xE),(204,vg)]
def Ib (n:Nat):HV->Option ((Bool) × Unit):=aH n TJ TH [tZ] [.b] [] [2] .no
def Ic:=Ib BIG
def TK:TSp:=⟨TI,[tZ],[.b],[],Ou.j .no,Ic⟩
theorem akZ:zK TJ 206 TI TH 95 .no [2]:=by show _=_;kernel_rfl
theorem ah6:TK.Ok PG 206:=aO (ae eU (ae apO (ae Ab (ae vZ (ay PG))))) akZ (by kernel_rfl)
theorem ak0 (n) (a0):Ib n a0 =
 ((bE (a0.1,(1:Int),(12:Int))).bind fun r0=>
  bif !r0.1 then
   some true
  else some (decide (12<(a0.2.length:Int)))).bind fun x1=>
 bif x1 then
  some (false,())
 else (aJ n (X:=Int × Int) (B:=(Int) ⊕ (Bool)) (fun self3 x2=>
  bif decide (x2.2<(a0.2.length:Int)) then
   (bnd a0.2.length x2.2 fun n4=>
    a0.2[n4]?.bind fun y5=>
    (O0 y5).bind fun r6=>
    bif !r6.1 then
     some (Sum.inr false)
    else bnd a0.2.length x2.2 fun n7=>
    a0.2[n7]?.bind fun y8=>
    (kH y8).bind fun r9=>
    (bnd r9.1.length (IntKind.wrap .i64 ((r9.1.length:Int)-1)) fun n10=>
     r9.1[n10]?.bind fun y11=>
     bif decide (a0.1<=y11) then
      some true
     else bif decide (0<x2.2) then
      bnd a0.2.length (IntKind.wrap .i64 (x2.2-1)) fun n12=>
      a0.2[n12]?.bind fun y13=>
      (kH y13).bind fun r14=>
      bnd r14.1.length (0:Int) fun n15=>
      r14.1[n15]?.bind fun y16=>
      bnd r9.1.length (0:Int) fun n17=>
      r9.1[n17]?.bind fun y18=>
      some (decide (y18<=y16))
     else some false).bind fun x19=>
    bif x19 then
     some (Sum.inr false)
    else aJ n (X:=Int) (B:=(Int) ⊕ (Bool)) (fun self21 x20=>
     bif decide (x20<x2.2) then
      (aJ n (X:=Int) (B:=(Unit) ⊕ (Bool)) (fun self23 x22=>
       bif decide (x22<(r9.1.length:Int)) then
        bnd a0.2.length x20 fun n24=>
        a0.2[n24]?.bind fun y25=>
        bnd r9.1.length x22 fun n26=>
        r9.1[n26]?.bind fun y27=>
        (jP (y25,y27)).bind fun r28=>
        bif r28.1 then
         some (Sum.inr false)
        else self23 (IntKind.wrap .i64 (x22+1))
       else some (Sum.inl ())) (0:Int)).bind fun y=>match y with
      | .inl x29=>
       self21 (IntKind.wrap .i64 (x20+1))
      | .inr x29=>
       some (Sum.inr x29)
     else some (Sum.inl (IntKind.wrap .i64 (x2.1+(r9.1.length:Int))))) (0:Int):Option ((Int) ⊕ (Bool))).bind fun y=>match y with
   | .inl x30=>
    self3 (x30,IntKind.wrap .i64 (x2.2+1))
   | .inr x30=>
    some (Sum.inr x30)
  else some (Sum.inl x2.1)) ((0:Int),(0:Int))).bind fun y=>match y with
 | .inl x31=>
  some (decide (x31=a0.1),())
 | .inr x31=>
  some (x31,()):=by kernel_rfl
def aed:TC:=
 (zS [dK 2 0,bK 4] (zQ (zS [dM 6 2 2,gz 7 206 6,jN 8 7] (zC 8 (zS [zEj 4] .ret) .skip)) (zQ (.join [] 16776752 (some [⟨4,[.i .i64],false⟩]) (zS [bK 5] (.block 0 (.loop [⟨5,[.i .i64],false⟩] 16776752 (zQ (zS [SN 9 5 2 1,yA 12 11 9] (zC 13 .skip (.exit 0))) (zQ (.block 1 (zS [FW 16 2 1 5,nz 19 17 18 1,au 21 1,jI 22 204 20 21] (zC 22 (zS [MQ 23 5 4] .ret) .skip))) (zR [gY 14 5 5]))))))) (zS [zEj 4] .ret))))
def aee:aL:=⟨[.rd true [.d,.sl (.own none) fF],.rd false [.d]],(.one false [.d])⟩
def aef:aK:=aD [(206,TK),(204,vg)]
def O1 (n:Nat):HV × Int->Option ((Int) × Unit):=aH n aef aed [tZ,[.i .i64]] [.i .i64] [] [4] .no
def nW:=O1 BIG
def Ba:TSp:=⟨aee,[tZ,[.i .i64]],[.i .i64],[],Ou.j .no,nW⟩
theorem atg:zK aef 183 aee aed 24 .no [4]:=by show _=_;kernel_rfl
theorem CE:Ba.Ok PG 183:=aO (ae ah6 (ae vZ (ay PG))) atg (by kernel_rfl)
theorem ath (n) (a0) (a1):O1 n (a0,a1) = (Ic a0).bind fun r0=> bif !r0.1 then some ((-1:Int),()) else (aJ n (X:=Int) (B:=(Unit) ⊕ (Int)) (fun self2 x1=> bif decide (x1<(a0.2.length:Int)) then bnd a0.2.length x1 fun n3=> a0.2[n3]?.bind fun y4=> (jP (y4,a1)).bind fun r5=> bif r5.1 then some (Sum.inr x1) else self2 (IntKind.wrap .i64 (x1+1)) else some (Sum.inl ())) (0:Int)).bind fun y=>match y with | .inl x6=> some ((-1:Int),()) | .inr x6=> some (x6,()):=by kernel_rfl
def ah7:TC:=
 (zS [kP 1 0] (zQ (zS [AZ 12 1 2 123,gz 14 127 13,jN 15 14] (zC 15 (zS [bz 2] .ret) .skip)) (zQ (.join [] 2147418124 (some [⟨2,[.b],false⟩]) (zS [bK 3] (.block 0 (.loop [⟨3,[.i .i64],false⟩] 2147418124 (zQ (zS [Oh 16 3 1 1 19] (zC 20 .skip (.exit 0))) (zQ (.block 1 (zS [FW 23 1 1 3,zMf 26 24 25 4 2,[o3 29 42 [.t 28,kO 0,kO 4]],jN 30 29] (zC 30 (zS [bz 2] .ret) .skip))) (zR [gY 21 3 3]))))))) (zS [bO 31 1 0,au 4 32] (zQ (.join [] 1267650600228229401488113274868 (some [⟨2,[.b],false⟩]) (zS [bK 5] (.block 2 (.loop [⟨4,[.i .i64],false⟩,⟨5,[.i .i64],false⟩] 1267650600228229401488113274868 (zQ (zS [au 33 5,zAy 34 33 4] (zC 34 .skip (.exit 2))) (zQ (.join [⟨4,[.i .i64],false⟩] 1267650600228229401359264255956 (some [⟨2,[.b],false⟩]) (.block 3 (zS [dM 38 1 2,au 39 5,jI 40 182 38 39,DR 40 37 40 2 2,zHb 6 1000000007,rY 6 41 6 41] (zQ (zS [au 43 7,jN 44 43] (zC 44 (zS [bz 2] .ret) .skip)) (zQ (.join [] 73786941110466118404 (some [⟨2,[.b],false⟩]) (zS [bK 8] (.block 4 (.loop [⟨8,[.i .i64],false⟩] 73786941110466118404 (zQ (zS [au 45 8,uq 46 6 1,yA 48 47 45] (zC 49 .skip (.exit 4))) (zQ (.join [] 73782472695210836484 (some [⟨2,[.b],false⟩]) (.block 5 (zS [uq 52 6 1,au 54 8,FR 55 53 54 6 1 1,gz 57 186 56,l9 58 57,au 9 58] (zQ (.join [⟨65,[.b],false⟩] 73210515542534782976 none (zR [au 59 9,Yn 60 59 1,BS 61 60 9 2,iE 63 4 2,[o2 64 (.data (.bin .gtr) [.t 62,.t 63]) 2 true],oW 61 64 65])) (zC 65 (zS [bz 2] .ret) .skip))))) (zR [gY 50 8 8]))))))) (zQ (.join [] 316912649983270374079337597956 (some [⟨2,[.b],false⟩]) (zS [bK 10] (.block 6 (.loop [⟨10,[.i .i64],false⟩] 316912649983270374079337597956 (zQ (zS [Oh 66 10 1 1 69] (zC 70 .skip (.exit 6))) (zQ (.join [] 316912640612324384634885376004 (some [⟨2,[.b],false⟩]) (.block 7 (zS [FW 73 1 1 10,kN 76 74 75 4 4,SI 11 1000000012,dR 11 11 77] (zQ (.join [⟨97,[.b],false⟩] 316912347825602446716882124800 none (zR [bO 78 11 3,zKa 80 79,vV 82 3 11 2 3,iE 84 5 3,DK 85 83 84 3,lC 81 85 86,zHj 88,qV 89 9,BL 90 11 0 89 9,qa 183 88 90 91 91 9,zHj 92,qV 93 9,BL 94 11 1 93 9,qa 183 92 94 95 95 9,zEv 96 91 95 9,oW 87 96 97])) (zC 97 (zS [bz 2] .ret) .skip))))) (zR [Ju 71 10]))))))) (zR [au 98 4,zDg 99 98 2,au 4 99]))))))) (zR [gY 35 5 5]))))))) (zS [gX 2] .ret))))))
def ah8:aL:=⟨[.rd true nE],(.one false [.d])⟩
def ah9:aK:=aD [(123,xB),(127,K4),(42,fH),(182,uw),(186,xE),(183,Ba)]
def Ww (n:Nat):eB->Option ((Bool) × Unit):=aH n ah9 ah7 [bH] [.b] [] [2] .no
def zi:=Ww BIG
def D9:TSp:=⟨ah8,[bH],[.b],[],Ou.j .no,zi⟩
theorem av0:zK ah9 180 ah8 ah7 100 .no [2]:=by show _=_;kernel_rfl
theorem Gn:D9.Ok PG 180:=aO (ae Aa (ae TA (ae eU (ae xD (ae Ab (ae CE (ay PG))))))) av0 (by kernel_rfl)
theorem av1 (n) (a0):Ww n a0 =
 (lU a0).bind fun r0=>
 (Cz r0.1).bind fun r1=>
 bif !r1.1 then
  some (false,())
 else (aJ n (X:=Int) (B:=(Unit) ⊕ (Bool)) (fun self3 x2=>
  bif decide (x2<(a0.2.length:Int)) then
   bnd a0.2.length x2 fun n4=>
   a0.2[n4]?.bind fun y5=>
   (bE (y5.2.2.1,(0:Int),(4:Int))).bind fun r6=>
   bif !r6.1 then
    some (Sum.inr false)
   else self3 (IntKind.wrap .i64 (x2+1))
  else some (Sum.inl ())) (0:Int)).bind fun y=>match y with
 | .inl x7=>
  (aJ n (X:=Int × Int) (B:=(Unit) ⊕ (Bool)) (fun self9 x8=>
   bif decide (x8.2<=4) then
    ((qy (a0,x8.2)).bind fun r10=>
     bif !r10.1.2.2 then
      some (Sum.inr false)
     else (aJ n (X:=Int) (B:=(Unit) ⊕ (Bool)) (fun self12 x11=>
      bif decide (x11<(r10.1.2.1.length:Int)) then
       (bnd r10.1.2.1.length x11 fun n13=>
        r10.1.2.1[n13]?.bind fun y14=>
        (kH y14).bind fun r15=>
        (bif decide (1<(r15.1.length:Int)) then
         some (decide (x8.1<(r15.1.length:Int)))
         else some false).bind fun x16=>
        bif x16 then
         some (Sum.inr false)
        else some (Sum.inl ())).bind fun y=>match y with
       | .inl x17=>
        self12 (IntKind.wrap .i64 (x11+1))
       | .inr x17=>
        some (Sum.inr x17)
      else some (Sum.inl ())) (0:Int)).bind fun y=>match y with
     | .inl x18=>
      (aJ n (X:=Int) (B:=(Unit) ⊕ (Bool)) (fun self20 x19=>
       bif decide (x19<(a0.2.length:Int)) then
        (bnd a0.2.length x19 fun n21=>
         a0.2[n21]?.bind fun y22=>
         (bif !y22.2.2.2 then
          bif decide (y22.2.2.1=x8.2) then
           (nW ((r10.1.1,r10.1.2.1),y22.1)).bind fun r23=>
           (nW ((r10.1.1,r10.1.2.1),y22.2.1)).bind fun r24=>
           some (!decide (r23.1=r24.1))
          else some false
          else some false).bind fun x25=>
         bif x25 then
          some (Sum.inr false)
         else some (Sum.inl ())).bind fun y=>match y with
        | .inl x26=>
         self20 (IntKind.wrap .i64 (x19+1))
        | .inr x26=>
         some (Sum.inr x26)
       else some (Sum.inl ())) (0:Int)).bind fun y=>match y with
      | .inl x27=>
       bif decide (2=0) then
        none
       else some (Sum.inl (IntKind.wrap .i64 (Int.tdiv x8.1 (2:Int))))
      | .inr x27=>
       some (Sum.inr x27)
     | .inr x18=>
      some (Sum.inr x18):Option ((Int) ⊕ (Bool))).bind fun y=>match y with
    | .inl x28=>
     self9 (x28,IntKind.wrap .i64 (x8.2+1))
    | .inr x28=>
     some (Sum.inr x28)
   else some (Sum.inl ())) (a0.1,(0:Int))).bind fun y=>match y with
  | .inl x29=>
   some (true,())
  | .inr x29=>
   some (x29,())
 | .inr x7=>
  some (x7,()):=by kernel_rfl
def JD:TC:=
 (zS [bz 4] (zQ (zS [w_ 6 0 6,w_ 8 1 8,wY 10 7 9] (zC 10 (zS [bz 4] .ret) .skip)) (zQ (.join [] 67106864 (some [⟨4,[.b],false⟩]) (zS [bK 5] (.block 0 (.loop [⟨5,[.i .i64],false⟩] 67106864 (zQ (zS [BR 11 5 0] (zC 14 .skip (.exit 0))) (zQ (.block 1 (zS [df 17 0 5,df 21 1 5,nz 19 17 18 1,nz 23 21 22 1,wY 25 20 24] (zC 25 (zS [bz 4] .ret) .skip))) (zR [gY 15 5 5]))))))) (zS [gX 4] .ret))))
def JE:aL:=⟨[.rd false fF,.rd false fF],(.one false [.d])⟩
def JF:aK:=aD []
def oL (n:Nat):List Int × List (Int)->Option ((Bool) × Unit):=aH n JF JD [[.sl [.i .i64]],[.sl [.i .i64]]] [.b] [] [4] .no
def tu:=oL BIG
def zk:TSp:=⟨JE,[[.sl [.i .i64]],[.sl [.i .i64]]],[.b],[],Ou.j .no,tu⟩
theorem ace:zK JF 181 JE JD 26 .no [4]:=by show _=_;kernel_rfl
theorem Gp:zk.Ok PG 181:=aO (ay PG) ace (by kernel_rfl)
theorem zl (n) (a0) (a1):oL n (a0,a1) = bif !decide ((a0.length:Int)=(a1.length:Int)) then some (false,()) else (aJ n (X:=Int) (B:=(Unit) ⊕ (Bool)) (fun self1 x0=> bif decide (x0<(a0.length:Int)) then bnd a0.length x0 fun n2=> a0[n2]?.bind fun y3=> bnd a1.length x0 fun n4=> a1[n4]?.bind fun y5=> bif !decide (y3=y5) then some (Sum.inr false) else self1 (IntKind.wrap .i64 (x0+1)) else some (Sum.inl ())) (0:Int)).bind fun y=>match y with | .inl x6=> some (true,()) | .inr x6=> some (x6,()):=by kernel_rfl
def D_:TC:=
 (zS [dK 2 0,kP 3 1] (zQ (.join [⟨4,[.b],false⟩] 2147483632 none (zR [iP 5 2 0 5,iP 7 3 0 7,o8 9 6 8,ut 10 9 5 2 1 5,vV 13 5 3 1 5,[o2 15 (.data (.beq false) [.t 12,.t 14]) 5 true],lC 10 15 16,Oi 18 12 2 2 3 2,qa 202 19 21 22 22 12,lC 17 22 23,Oi 25 19 2 3 3 3,qa 181 26 28 29 29 19,nA 24 29 30 4])) .ret))
def Ea:aL:=⟨[.rd true MJ,.rd true MJ],(.one false [.d])⟩
def Eb:aK:=aD [(202,xw),(181,zk)]
def vk (n:Nat):oK × oK->Option ((Bool) × Unit):=aH n Eb D_ [iF,iF] [.b] [] [4] .no
def vo:=vk BIG
def Ec:TSp:=⟨Ea,[iF,iF],[.b],[],Ou.j .no,vo⟩
theorem Wx:zK Eb 169 Ea D_ 31 .no [4]:=by show _=_;kernel_rfl
theorem Su:Ec.Ok PG 169:=aO (ae DZ (ae Gp (ay PG))) Wx (by kernel_rfl)
theorem Wy (n) (a0) (a1):vk n (a0,a1) = (bif decide (a0.1=a1.1) then bif (a0.2.1 == a1.2.1) then (qY (a0.2.2.1,a1.2.2.1)).bind fun r0=> bif r0.1 then (tu (a0.2.2.2,a1.2.2.2)).bind fun r1=> some r1.1 else some false else some false else some false).bind fun x2=> some (x2,()):=by kernel_rfl
def TL:TC:=
 (zS [kP 1 0] (zS [dM 3 1 4,zHk 4,jI 5 169 3 4,au 2 5] .ret))
def TM:aL:=⟨[.rd true MJ],(.one false [.d])⟩
def TN:aK:=aD [(169,Ec)]
def Ie (n:Nat):oK->Option ((Bool) × Unit):=aH n TN TL [iF] [.b] [] [2] .no
def Ig:=Ie BIG
def TP:TSp:=⟨TM,[iF],[.b],[],Ou.j .no,Ig⟩
theorem ak1:zK TN 96 TM TL 6 .no [2]:=by show _=_;kernel_rfl
theorem ah_:TP.Ok PG 96:=aO (ae Su (ay PG)) ak1 (by kernel_rfl)
theorem ak2 (n) (a0):Ie n a0 = (vo (a0,((0:Int),false,[],[]))).bind fun r0=> some (r0.1,()):=by kernel_rfl
def TQ:TC:=
 (zS [kP 3 1] (zQ (.join [⟨4,[.b],false⟩] 16777200 none (zR [au 5 0,oZ 6 42 5 12,au 7 6,qV 8 2,BL 9 3 0 8 2,zEB 42 9 10 10 2,lC 7 10 11,iE 13 0 7,vV 14 7 3 2 7,qa 139 13 15 16 16 7,lC 12 16 17,iE 19 0 13,AU 20 13 3 3,qa 140 19 21 22 22 13,nA 18 22 23 4])) .ret))
def TU:aL:=⟨[.rd false [.d],.rd true MJ],(.one false [.d])⟩
def TV:aK:=aD [(42,fH),(139,uu),(140,DY)]
def Ih (n:Nat):Int × oK->Option ((Bool) × Unit):=aH n TV TQ [[.i .i64],iF] [.b] [] [4] .no
def Ac:=Ih BIG
def Ii:TSp:=⟨TU,[[.i .i64],iF],[.b],[],Ou.j .no,Ac⟩
theorem ak3:zK TV 80 TU TQ 24 .no [4]:=by show _=_;kernel_rfl
theorem O3:Ii.Ok PG 80:=aO (ae eU (ae xm (ae MX (ay PG)))) ak3 (by kernel_rfl)
theorem ak4 (n) (a0) (a1):Ih n (a0,a1) = ((bE (a0,(1:Int),(12:Int))).bind fun r0=> bif r0.1 then (bE (a1.1,(1:Int),(100000:Int))).bind fun r1=> bif r1.1 then (qx (a0,a1.2.2.1)).bind fun r2=> bif r2.1 then (xn (a0,a1.2.2.2)).bind fun r3=> some r3.1 else some false else some false else some false).bind fun x4=> some (x4,()):=by kernel_rfl
def O4:TC:=
 (zS [dK 1 0,yu 2] (zS [zBa 7,dC 7 3 7] (zQ (zS [dM 8 1 2,gz 9 180 8,jN 10 9] (zC 10 (zS [tO 3 11 3 2] .ret) .skip)) (zS [dM 13 1 2,zHm 14 182 13,DR 14 12 14 2 2,zHb 4 1000000005,rY 4 15 4 15] (zQ (.join [⟨3,[.sl [.i .i64]],false⟩] 68719345736 none (zS [bK 6] (.block 0 (.loop [⟨3,[.sl [.i .i64]],false⟩,⟨6,[.i .i64],false⟩] 68719345736 (zQ (zS [SN 17 6 1 0,gy 20 17 19] (zC 20 .skip (.exit 0))) (zQ (.block 1 (zR [dC 3 23 3,au 27 6,uq 24 4 1,jf 26 4 2,jI 28 183 26 27,FR 29 25 28 4 1 1,gz 31 186 30,zHf 32 31,Yo 33 31 1 32,Jo 34 33,MM 23 34 35 23 3])) (zR [gY 21 6 6]))))))) (zS [tO 3 36 3 2] .ret))))))
def O5:aL:=⟨[.rd true nE],(.one false fF)⟩
def O6:aK:=aD [(180,D9),(182,uw),(183,Ba),(186,xE)]
def xF (n:Nat):eB->Option ((List Int) × Unit):=aH n O6 O4 [bH] [.sl [.i .i64]] [] [2] .no
def mP:=xF BIG
def Ee:TSp:=⟨O5,[bH],[.sl [.i .i64]],[],Ou.j .no,mP⟩
theorem aia:zK O6 124 O5 O4 37 .no [2]:=by show _=_;kernel_rfl
theorem M4:Ee.Ok PG 124:=aO (ae Gn (ae xD (ae CE (ae Ab (ay PG))))) aia (by kernel_rfl)
theorem O7 (n) (a0):xF n a0 = (zi a0).bind fun r0=> bif !r0.1 then some ([],()) else (qy (a0,(0:Int))).bind fun r1=> (aJ n (X:=(List Int) × Int) (B:=(List Int)) (fun self3 x2=> bif decide (x2.2<a0.1) then (nW ((r1.1.1,r1.1.2.1),x2.2)).bind fun r4=> bnd r1.1.2.1.length r4.1 fun n5=> r1.1.2.1[n5]?.bind fun y6=> (kH y6).bind fun r7=> bnd r7.1.length (0:Int) fun n8=> r7.1[n8]?.bind fun y9=> bif decide (x2.1.length+[y9].length<=4294967296) then self3 (x2.1++[y9],IntKind.wrap .i64 (x2.2+1)) else none else some x2.1) ([],(0:Int))).bind fun x10=> some (x10,()):=by kernel_rfl
def Zz:TC:=
 (zS [kP 1 0] (zQ (.seq (.join [⟨12,[.b],false⟩] 8184 none (zR [iP 3 1 0 3,oZ 5 42 4 3,jN 6 5,au 7 6,rW 8 4,zHn 9 1 1 8 2 4,SH 180 9 10 10 4,tN 11 10 4 7])) (zC 12 (zS [bz 2] .ret) .skip)) (zQ (.join [⟨2,[.b],false⟩] 8589926404 none (zR [FU 13 1 3 4,gz 15 96 14,au 16 15,rW 17 3,wZ 18 17 3,BM 19 1 1 18 3,rW 20 3,zHn 21 1 3 20 4 3,yx 80 19 21 22 22 3,jH 23 22 3,Yu 24 10 1 6,qV 27 10,zEp 28 1 1 27 2 10,zHi 124 28 29 29 10,qa 181 26 29 30 30 10,FP 23 30 31 31 3 16,au 2 32])) .ret)))
def ZB:aL:=⟨[.rd true N9],(.one false [.d])⟩
def ZC:aK:=aD [(42,fH),(180,D9),(96,TP),(80,Ii),(124,Ee),(181,zk)]
def Lc (n:Nat):jO->Option ((Bool) × Unit):=aH n ZC Zz [gJ] [.b] [] [2] .no
def CF:=Lc BIG
def ZE:TSp:=⟨ZB,[gJ],[.b],[],Ou.j .no,CF⟩
theorem apP:zK ZC 118 ZB Zz 33 .no [2]:=by show _=_;kernel_rfl
theorem ak5:ZE.Ok PG 118:=aO (ae eU (ae Gn (ae ah_ (ae O3 (ae M4 (ae Gp (ay PG))))))) apP (by kernel_rfl)
theorem apQ (n) (a0):Lc n a0 = ((bE (a0.1,(1:Int),(3:Int))).bind fun r0=> bif !r0.1 then some true else (zi (a0.2.1,a0.2.2.1)).bind fun r1=> some !r1.1).bind fun x2=> bif x2 then some (false,()) else ((Ig a0.2.2.2).bind fun r3=> bif r3.1 then some true else (Ac (a0.2.1,a0.2.2.2)).bind fun r4=> bif r4.1 then (mP (a0.2.1,a0.2.2.1)).bind fun r5=> (tu (a0.2.2.2.2.2.2,r5.1)).bind fun r6=> some r6.1 else some false).bind fun x7=> some (x7,()):=by kernel_rfl
def Ef:TC:=
 (zS [dK 1 0,zHp 2 1000000003] (zS [Yp 3,iP 4 1 2 4,yw 3 5 6 3,jq 7,FO 6 2 7 6] (zS [zBa 8,iP 9 1 3 9,yw 8 10 11 8,jq 12,FO 11 3 12 11] (zS [w9 13 1 4 2 2 1] .ret))))
def Eg:aL:=⟨[.rd true MJ],(.one true MJ)⟩
def Eh:aK:=aD []
def vw (n:Nat):oK->Option (oK × Unit):=aH n Eh Ef [iF] iF [] [2] .no
def jy:=vw BIG
def vz:TSp:=⟨Eg,[iF],iF,[],Ou.j .no,jy⟩
theorem Wz:zK Eh 120 Eg Ef 14 .no [2]:=by show _=_;kernel_rfl
theorem BU:vz.Ok PG 120:=aO (ay PG) Wz (by kernel_rfl)
theorem WB (n) (a0):vw n a0 = bif decide (0+a0.2.2.1.length<=4294967296) then bif decide (0+a0.2.2.2.length<=4294967296) then some ((a0.1,a0.2.1,[]++a0.2.2.1,[]++a0.2.2.2),()) else none else none:=by kernel_rfl
def ZF:TC:=
 (zS [dK 1 0,DJ 2 1000000003] (zS [[o1 3 (.sli qF [])],jq 4,Jn 5 4,Ob 6 1 2 5,yw 3 6 7 3,jq 8,Jn 9 8,FO 7 2 9 7] (zS [FU 10 1 3 4,gz 12 120 11,jq 13,FO 12 3 13 12] (zS [w9 14 1 7 2 2 1] .ret))))
def ZG:aL:=⟨[.rd true N9],(.one true N9)⟩
def ZH:aK:=aD [(120,vz)]
def Ld (n:Nat):jO->Option (jO × Unit):=aH n ZH ZF [gJ] gJ [] [2] .no
def pO:=Ld BIG
def Lf:TSp:=⟨ZG,[gJ],gJ,[],Ou.j .no,pO⟩
theorem apR:zK ZH 115 ZG ZF 15 .no [2]:=by show _=_;kernel_rfl
theorem TW:Lf.Ok PG 115:=aO (ae BU (ay PG)) apR (by kernel_rfl)
theorem apS (n) (a0):Ld n a0 = bif decide (0+a0.2.2.1.length<=4294967296) then (jy a0.2.2.2).bind fun r0=> some ((a0.1,a0.2.1,[]++a0.2.2.1,r0.1),()) else none:=by kernel_rfl
def ZI:TC:=
 (zS [dK 2 0,kP 3 1] (zS [iP 5 2 1 5,dM 7 3 2,jI 8 143 6 7,au 4 8] .ret))
def ZJ:aL:=⟨[.rd true Oa,.rd true [.d,.d]],(.one false [.d])⟩
def ZK:aK:=aD [(143,A9)]
def Lg (n:Nat):Bu × aP->Option ((Bool) × Unit):=aH n ZK ZI [kM,[.i .i64,.i .i64]] [.b] [] [4] .no
def CG:=Lg BIG
def Lh:TSp:=⟨ZJ,[kM,[.i .i64,.i .i64]],[.b],[],Ou.j .no,CG⟩
theorem apT:zK ZK 129 ZJ ZI 9 .no [4]:=by show _=_;kernel_rfl
theorem TZ:Lh.Ok PG 129:=aO (ae Cy (ay PG)) apT (by kernel_rfl)
theorem apU (n) (a0) (a1):Lg n (a0,a1) = (vY (a0.2,a1)).bind fun r0=> some (r0.1,()):=by kernel_rfl
def ZL:TC:=
 (zS [dK 2 0,dK 3 1,zGC 4 1000000005,bz 5] (zQ (.seq (.join [⟨20,[.b],false⟩] 2097088 none (zR [dM 6 2 2,gz 7 127 6,jN 8 7,MO 9 8 3 2 0 3,S_ 12 3 2 3 128 11 3,DN 14 13 3 9,BP 17 2 2 10,BP 18 3 2 10,yx 129 17 18 19 19 10,qU 16 19 20])) (zC 20 (zS [[o1 21 (.build kM [])],FY 4 21 4 21] .ret) .skip)) (zS [o9 22 2 0 2 1,yC 26 3 2 130 25,zHq,iZ 4 28 4 28,gX 5] .ret)))
def ZM:aL:=⟨[.rd true Oa,.rd true [.d,.d]],(.tup [(true,2),(false,1)] [.d,.sl (.own none) [.d,.d],.d])⟩
def ZN:aK:=aD [(127,K4),(128,A7),(129,Lh),(130,Gl)]
def Li (n:Nat):Bu × aP->Option ((Int × List aP × Bool) × Unit):=aH n ZN ZL [kM,[.i .i64,.i .i64]] apc [] [4,5] .no
def Lj:=Li BIG
def ZO:TSp:=⟨ZM,[kM,[.i .i64,.i .i64]],apc,[],Ou.j .no,Lj⟩
theorem apV:zK ZN 44 ZM ZL 29 .no [4,5]:=by show _=_;kernel_rfl
theorem ak6:ZO.Ok PG 44:=aO (ae TA (ae Cu (ae TZ (ae KY (ay PG))))) apV (by kernel_rfl)
theorem apW (n) (a0) (a1):Li n (a0,a1) = ((Cz a0).bind fun r0=> bif !r0.1 then some true else (vX (a0.1,a1)).bind fun r1=> bif !r1.1 then some true else (CG (a0,a1)).bind fun r2=> some r2.1).bind fun x3=> bif x3 then some (((0:Int),[],false),()) else (A_ (a0.2,a1)).bind fun r4=> some ((a0.1,r4.1,true),()):=by kernel_rfl
def aeg:TC:=
 (zS [dK 3 1,[o1 4 (.lit oJ [.slice none 0 0])]] (zS [[o1 8 (.sli qF [])],dC 8 5 8] (zQ (.join [⟨5,oJ,false⟩] 1125899906842208 none (zS [bK 6] (.block 0 (.loop [⟨5,oJ,false⟩,⟨6,[.i .i64],false⟩] 1125899906842208 (zQ (zS [df 9 6 0,yA 11 10 9] (zC 12 .skip (.exit 0))) (zQ (.join [⟨5,oJ,false⟩] 1125899906809888 none (.block 1 (zQ (.join [⟨42,[.b],false⟩] 8796092989440 none (zR [df 15 0 6,SQ 17 15 16 4,bO 20 3 0,gy 22 19 21,au 23 22,jH 24 0 8,Yw 25 6 8 24 8,wZ 27 26 8,Yr 28 24 4 27 8,yB 29 8 3 0 8,zDA 31 28 30 8,jH 32 31 8,iE 33 0 17,iE 34 6 17,qW 35 33 34 17,Jq 36 35 17,zHr 37 33 4 1 36 17,AU 38 17 3 1,zDx 40 37 39 17,FP 32 40 41 41 8 23])) (zC 42 (zR [dC 5 43 5,S9 44 0 6 4 4,zHs 48 47,MM 43 48 49 43 5]) .skip)))) (zR [gY 13 6 6]))))))) (zS [dC 5 50 5,dM 51 3 4,zHs 52 51,MM 50 52 53 50 5] (zQ (.join [⟨5,oJ,false⟩] 39614081257114154398262493344 none (zS [bK 7] (.block 2 (.loop [⟨5,oJ,false⟩,⟨7,[.i .i64],false⟩] 39614081257114154398262493344 (zQ (zS [BR 54 7 0] (zC 57 .skip (.exit 2))) (zQ (.join [⟨5,oJ,false⟩] 39614081255979247292165128224 none (.block 3 (zQ (.join [⟨87,[.b],false⟩] 309485008668423564117934080 none (zR [df 60 0 7,SQ 62 60 61 4,bO 65 3 0,[o1 67 (.data (.bin .gtr) [.t 64,.t 66])],au 68 67,jH 69 0 8,Yw 70 7 8 69 8,wZ 72 71 8,Yr 73 69 4 72 8,yB 74 8 3 0 8,zDA 76 73 75 8,jH 77 76 8,iE 78 0 17,iE 79 7 17,qW 80 78 79 17,Jq 81 80 17,zHr 82 78 4 1 81 17,AU 83 17 3 1,[o2 85 (.data (.bin .gtr) [.t 82,.t 84]) 17 true],FP 77 85 86 86 8 68])) (zC 87 (zR [dC 5 88 5,S9 89 0 7 4 4,zHs 93 92,MM 88 93 94 88 5]) .skip)))) (zR [gY 58 7 7]))))))) (zS [tO 5 95 5 4] .ret))))))
def aeh:aL:=⟨[.rd false [.sl (.own none) [.d,.d,.d,.d]],.rd true [.d,.d,.d,.d]],(.one false [.sl (.own none) [.d,.d,.d,.d]])⟩
def aei:aK:=aD []
def O8 (n:Nat):(List lS) × lS->Option ((List lS) × Unit):=aH n aei aeg [oJ,qF] oJ [] [4] .no
def O9:=O8 BIG
def aej:TSp:=⟨aeh,[oJ,qF],oJ,[],Ou.j .no,O9⟩
theorem ati:zK aei 184 aeh aeg 96 .no [4]:=by show _=_;kernel_rfl
theorem apX:aej.Ok PG 184:=aO (ay PG) ati (by kernel_rfl)
theorem atj (n) (a0) (a1):O8 n (a0,a1) = (aJ n (X:=(List lS) × Int) (B:=(List lS)) (fun self1 x0=> bif decide (x0.2<(a0.length:Int)) then ((bnd a0.length x0.2 fun n2=> a0[n2]?.bind fun y3=> bif decide (y3.1<a1.1) then some true else bnd a0.length x0.2 fun n4=> a0[n4]?.bind fun y5=> bif decide (y5.1=a1.1) then bnd a0.length x0.2 fun n6=> a0[n6]?.bind fun y7=> some (decide (y7.2.1<a1.2.1)) else some false).bind fun x8=> bif x8 then bnd a0.length x0.2 fun n9=> a0[n9]?.bind fun y10=> bif decide (x0.1.length+[y10].length<=4294967296) then some (x0.1++[y10]) else none else some x0.1:Option ((List lS))).bind fun x11=> self1 (x11,IntKind.wrap .i64 (x0.2+1)) else some x0.1) ([],(0:Int))).bind fun x12=> bif decide (x12.length+[a1].length<=4294967296) then (aJ n (X:=(List lS) × Int) (B:=(List lS)) (fun self14 x13=> bif decide (x13.2<(a0.length:Int)) then ((bnd a0.length x13.2 fun n15=> a0[n15]?.bind fun y16=> bif decide (a1.1<y16.1) then some true else bnd a0.length x13.2 fun n17=> a0[n17]?.bind fun y18=> bif decide (y18.1=a1.1) then bnd a0.length x13.2 fun n19=> a0[n19]?.bind fun y20=> some (decide (a1.2.1<y20.2.1)) else some false).bind fun x21=> bif x21 then bnd a0.length x13.2 fun n22=> a0[n22]?.bind fun y23=> bif decide (x13.1.length+[y23].length<=4294967296) then some (x13.1++[y23]) else none else some x13.1:Option ((List lS))).bind fun x24=> self14 (x24,IntKind.wrap .i64 (x13.2+1)) else some x13.1) (x12++[a1],(0:Int))).bind fun x25=> some (x25,()) else none:=by kernel_rfl
def aek:TC:=
 (zS [dK 2 0,dK 3 1,DI 4 1000000005,bz 5] (zS [zHt 1000000007 2 12 12,zHu 1000000007 123 12 13 13,zHv 1000000007 14 14,zHw 1000000007 44 13 14 15 15,zMi 1000000007 2 15 11 15 11,zGC 6 1000000007,rY 6 16 6 16] (zQ (.seq (.join [⟨24,[.b],false⟩] 33292288 none (zR [AZ 18 2 2 180,Jw 20 19 7 3,tN 23 22 3 21])) (zC 24 (zS [zBD 25,FY 4 25 4 25] .ret) .skip)) (zS [dM 27 2 2,zHm 28 182 27,DR 28 26 28 2 2,zHb 8 1000000009,rY 8 29 8 29] (zS [ML 1000000011 31 31 3 0,ML 1000000011 33 33 3 1,zHA 35 35,ML 1000000011 36 36 3 0,zHw 1000000011 183 35 37 38 38,zHA 39 39,ML 1000000011 40 40 3 1,zHw 1000000011 183 39 41 42 42,[⟨false,[],[1000000011],.det 1 (.data (.bin .neq) [.t 38,.t 42]),[43],(some 43),none⟩,⟨false,[],[1000000011],.det 1 (.build qF [(0,.t 32),(1,.t 34),(3,.t 43)]),[44],(some 44),none⟩],SI 10 1000000011,dR 10 10 44] (zS [o9 45 2 0 2 1,yC 49 10 4 184 48,[o5 (.build bH [(0,.t 46),(1,.t 50)]) 51 50],iZ 4 51 4 51,gX 5] .ret))))))
def ael:aL:=⟨[.rd true nE,.rd true [.d,.d]],(.tup [(true,2),(false,1)] Ct7)⟩
def aem:aK:=aD [(123,xB),(44,ZO),(180,D9),(182,uw),(183,Ba),(184,aej)]
def O_ (n:Nat):eB × aP->Option (apg × Unit):=aH n aem aek [bH,[.i .i64,.i .i64]] N8 [] [4,5] .no
def Bb:=O_ BIG
def aen:TSp:=⟨ael,[bH,[.i .i64,.i .i64]],N8,[],Ou.j .no,Bb⟩
theorem atl:zK aem 121 ael aek 52 .no [4,5]:=by show _=_;kernel_rfl
theorem apY:aen.Ok PG 121:=aO (ae Aa (ae ak6 (ae Gn (ae xD (ae CE (ae apX (ay PG))))))) atl (by kernel_rfl)
theorem atm (n) (a0) (a1):O_ n (a0,a1) = (lU a0).bind fun r0=> (Lj (r0.1,a1)).bind fun r1=> ((zi a0).bind fun r2=> bif !r2.1 then some true else some !r1.1.2.2).bind fun x3=> bif x3 then some (((0:Int),[],false),()) else (qy (a0,(0:Int))).bind fun r4=> (nW ((r4.1.1,r4.1.2.1),a1.1)).bind fun r5=> (nW ((r4.1.1,r4.1.2.1),a1.2)).bind fun r6=> (O9 (a0.2,(a1.1,a1.2,(0:Int),!decide (r5.1=r6.1)))).bind fun r7=> some ((a0.1,r7.1,true),()):=by kernel_rfl
def Pb:TC:=
 (zS [dK 3 0,dK 4 1,[o1 6 (.lit oJ [.slice none 0 0])],bK 7] (zS [[o1 18 (.sli qF [])],bO 19 3 1,MM 18 20 21 18 8] (zS [dM 23 3 2,au 24 2,jI 25 182 23 24,DR 25 22 25 2 2,zHb 9 1000000010,rY 9 26 9 26] (zS [uq 28 9 1,jf 30 9 2,bO 31 4 0,jI 33 183 30 32,FR 34 29 33 9 1 1,Yy 36 186 35 11] (zS [uq 37 9 1,jf 39 9 2,bO 40 4 1,jI 42 183 39 41,FR 43 38 42 9 1 1,Yy 45 186 44 12] (zQ (.join [⟨11,[.sl [.i .i64]],false⟩] 4433230883198976 none (zS [gN 46 12,l9 47 46,gN 48 11,yA 49 48 47] (zC 50 (zR [Yt 12 51 12 46 51,Yt 51 11 51 48 11]) .skip))) (zS [gY 52 2 13] (zQ (.join [⟨13,[.i .i64],false⟩] 54043195528454144 none (zS [au 54 13,Yn 55 54 4] (zC 55 (zR [nU 13 4]) .skip))) (zQ (.join [⟨8,oJ,false⟩] 1237940039213322680861212928 none (zS [bK 14] (.block 0 (.loop [⟨8,oJ,false⟩,⟨14,[.i .i64],false⟩] 1237940039213322680861212928 (zQ (zS [au 56 14,gN 57 8,yA 58 57 56] (zC 59 .skip (.exit 0))) (zQ (.join [⟨8,oJ,false⟩] 1237940034817809444547592448 none (.block 1 (zQ (.join [⟨84,[.b],false⟩] 38685621615982115163209728 none (zR [FV 62 8 14,Oe 64 62 63,zBf 66 8 4 3 65,au 67 66,SL 8 68 68 5,iE 69 14 5,qW 70 68 69 5,Jq 71 70 5,zHr 72 8 4 2 71 5,iE 73 2 5,DK 74 72 73 5,lC 67 74 75,SL 11 77 77 14,SL 8 78 78 14,iE 79 14 14,qW 80 78 79 14,Jq 81 80 14,BN 82 8 4 81 14,qa 204 77 82 83 83 14,oW 76 83 84])) (zC 84 (zR [gN 85 8,df 86 14 13,Oe 88 85 86,[o4 1 [8,57,62,85] (.store 8 [(0,4)] 2 (.t 89) (.t 87))]]) .skip)))) (zR [Ju 60 14]))))))) (zQ (.join [⟨8,oJ,false⟩] 713623846352979939291202945439367293292478912 (some [⟨6,oJ,false⟩,⟨7,[.i .i64],false⟩]) (zS [bK 15] (.block 2 (.loop [⟨8,oJ,false⟩,⟨15,[.i .i64],false⟩] 713623846352979939291202945583482481368334784 (zQ (zS [au 90 15,gN 91 8,yA 92 91 90] (zC 93 .skip (.exit 2))) (zQ (.join [⟨8,oJ,false⟩] 713623846352979863776860549031170524445868480 (some [⟨6,oJ,false⟩,⟨7,[.i .i64],false⟩]) (.block 3 (zS [gN 96 11,FV 97 8 15,Oe 99 97 98,Yo 101 8 4 100,jI 102 204 96 101,au 16 102] (zS [gN 103 11,FV 104 8 15,Oe 106 104 105,zBf 108 8 4 1 107,jI 109 204 103 108,au 17 109] (zQ (.seq (.join [⟨133,[.b],false⟩] 21778070184865847027949067743009083228160 none (zR [FW 110 3 1 15,zMf 113 111 112 4 3,MO 116 115 6 3 1 6,Yw 119 15 6 118 6,wZ 121 120 6,[o2 122 (.load 118 [(0,4)] 2 (.t 121) 1 false) 6 false],jH 123 2 6,Jt 124 122 123 6 116,au 126 125,jH 127 16 16,zBn 128 127 16,jH 129 128 16,iE 130 17 19,zEc 131 130 19,FP 129 131 132 132 16 126])) (zC 133 (.exit 3) .skip)) (zQ (.seq (.join [⟨137,[.b],false⟩] 326671072244100924924839623134497482997760 none (zR [au 134 16,BS 135 134 17 1,oW 135 136 137])) (zC 137 (zS [gN 138 8,df 139 15 13,Oe 141 138 139,[o4 1 [8,91,97,104,138] (.store 8 [(0,4)] 2 (.t 142) (.t 140))]] (.exit 3)) .skip)) (zS [FV 143 8 15,Oe 145 143 144,[o4 1 [8,91,97,104,143] (.store 8 [(0,4)] 3 (.t 146) (.c [.b] [.bool true]))]] (zS [[⟨false,[],[],.det 2 (.copy 8),[147,8,99,100,106,107,145,146],(some 147),none⟩],au 148 15,dC 147 6 147,au 7 148] .ret)))))))) (zR [Ju 94 15]))))))) (zS [Yt 8 149 8 91 149,dC 149 6 149,zEj 7] .ret)))))))))))
def Pd:aL:=⟨[.rd true nE,.rd true [.d,.d],.rd false [.d]],(.tup [(false,1),(false,1)] [.sl (.own none) [.d,.d,.d,.d],.d])⟩
def Pe:aK:=aD [(182,uw),(183,Ba),(186,xE),(204,vg)]
def Ei (n:Nat):eB × aP × Int->Option ((List lS × Int) × Unit):=aH n Pe Pb [bH,[.i .i64,.i .i64],[.i .i64]] [.sl qF,.i .i64] [] [6,7] .no
def rZ:=Ei BIG
def Pf:TSp:=⟨Pd,[bH,[.i .i64,.i .i64],[.i .i64]],[.sl qF,.i .i64],[],Ou.j .no,rZ⟩
theorem aib:zK Pe 185 Pd Pb 150 .no [6,7]:=by show _=_;kernel_rfl
theorem afK:Pf.Ok PG 185:=aO (ae xD (ae CE (ae Ab (ae vZ (ay PG))))) aib (by kernel_rfl)
theorem aic (n) (a0) (a1) (a2):Ei n (a0,a1,a2) =
 bif decide (0+a0.2.length<=4294967296) then
  (qy (a0,a2)).bind fun r0=>
  (nW ((r0.1.1,r0.1.2.1),a1.1)).bind fun r1=>
  bnd r0.1.2.1.length r1.1 fun n2=>
  r0.1.2.1[n2]?.bind fun y3=>
  (kH y3).bind fun r4=>
  (nW ((r0.1.1,r0.1.2.1),a1.2)).bind fun r5=>
  bnd r0.1.2.1.length r5.1 fun n6=>
  r0.1.2.1[n6]?.bind fun y7=>
  (kH y7).bind fun r8=>
  (bif decide ((r8.1.length:Int)<(r4.1.length:Int)) then
   some r8.1
   else some r4.1).bind fun x9=>
  (bif decide (4<(IntKind.wrap .i64 (a2+1))) then
   some (4:Int)
   else some (IntKind.wrap .i64 (a2+1))).bind fun x10=>
  (aJ n (X:=(List lS) × Int) (B:=(List lS)) (fun self12 x11=>
   bif decide (x11.2<(x11.1.length:Int)) then
    ((bnd x11.1.length x11.2 fun n13=>
     x11.1[n13]?.bind fun y14=>
     bif y14.2.2.2 then
      bnd x11.1.length x11.2 fun n15=>
      x11.1[n15]?.bind fun y16=>
      bif decide (y16.2.2.1=a2) then
       bnd x11.1.length x11.2 fun n17=>
       x11.1[n17]?.bind fun y18=>
       (jP (x9,y18.1)).bind fun r19=>
       some r19.1
      else some false
     else some false).bind fun x20=>
     bif x20 then
      bnd x11.1.length x11.2 fun n21=>
      x11.1[n21]?.bind fun y22=>
      some (x11.1.set n21 (y22.1,y22.2.1,x10,y22.2.2.2))
     else some x11.1).bind fun x23=>
    self12 (x23,IntKind.wrap .i64 (x11.2+1))
   else some x11.1) ([]++a0.2,(0:Int))).bind fun x24=>
  (aJ n (X:=(List lS) × Int) (B:=((List lS)) ⊕ ((List lS) × Int)) (fun self26 x25=>
   bif decide (x25.2<(x25.1.length:Int)) then
    (bnd x25.1.length x25.2 fun n27=>
     x25.1[n27]?.bind fun y28=>
     (jP (x9,y28.1)).bind fun r29=>
     bnd x25.1.length x25.2 fun n30=>
     x25.1[n30]?.bind fun y31=>
     (jP (x9,y31.2.1)).bind fun r32=>
     (bnd a0.2.length x25.2 fun n33=>
      a0.2[n33]?.bind fun y34=>
      bif y34.2.2.2 then
       some true
      else bnd a0.2.length x25.2 fun n35=>
      a0.2[n35]?.bind fun y36=>
      bif !decide (y36.2.2.1=a2) then
       some true
      else bif !r29.1 then
       some !r32.1
      else some false).bind fun x37=>
     bif x37 then
      some (Sum.inl x25.1)
     else (bif r29.1 then
      some r32.1
      else some false).bind fun x38=>
     bif x38 then
      bnd x25.1.length x25.2 fun n39=>
      x25.1[n39]?.bind fun y40=>
      some (Sum.inl (x25.1.set n39 (y40.1,y40.2.1,x10,y40.2.2.2)))
     else bnd x25.1.length x25.2 fun n41=>
     x25.1[n41]?.bind fun y42=>
     some (Sum.inr (x25.1.set n41 (y42.1,y42.2.1,y42.2.2.1,true),x25.2))).bind fun y=>match y with
    | .inl x43=>
     self26 (x43,IntKind.wrap .i64 (x25.2+1))
    | .inr x43=>
     some (Sum.inr (x43.1,x43.2))
   else some (Sum.inl x25.1)) (x24,(0:Int))).bind fun y=>match y with
  | .inl x44=>
   some ((x44,(-1:Int)),())
  | .inr x44=>
   some (x44,())
 else none:=by kernel_rfl
def ZP:TC:=
 (zS [dK 2 0,dK 3 1,DI 4 1000000005,qX 5 1000000006,bz 6,bz 7] (zQ (.seq (.join [⟨23,[.b],false⟩] 16760832 none (zR [AZ 14 2 2 180,zKa 16 15,BP 18 2 2 3,SH 123 18 19 19 3,S_ 20 3 2 3 129 19 3,tN 22 21 3 17])) (zC 23 (zS [zBD 24,zHB 25,iZ 4 24 4 24,dR 5 5 25,zHC,bz 7] .ret) .skip)) (zS [bO 26 2 0,zBE 28 27,DI 8 1000000009,iZ 8 28 8 28] (zS [[o1 29 (.build qF [])],SI 9 1000000010,dR 9 9 29] (zQ (.join [⟨9,qF,false⟩,⟨8,bH,false⟩] 4722366482868571473664 none (zS [bK 10] (.block 0 (.loop [⟨9,qF,false⟩,⟨8,bH,false⟩,⟨10,[.i .i64],false⟩] 4722366482868571473664 (zQ (zS [Oh 30 10 2 1 33] (zC 34 .skip (.exit 0))) (zQ (.join [⟨9,qF,false⟩,⟨8,bH,false⟩] 4722366482732206260992 none (.block 1 (zQ (.join [⟨56,[.b],false⟩] 144115050636902400 none (zR [au 39 10,bO 37 2 1,SQ 40 38 39 4,bO 43 3 0,o8 45 42 44,ut 46 45 9 2 1 9,iE 49 10 9,qW 50 48 49 9,Jq 51 50 9,zHr 52 48 4 1 51 9,vV 53 9 3 1 9,DK 55 52 54 9,oW 46 55 56])) (zC 56 (zR [FW 57 2 1 10,kN 60 58 59 4 4,dR 9 9 61]) (zR [au 66 10,uq 62 8 1,bO 64 2 1,kN 67 65 66 4 4,zHs 69 68,Yv 63 63 69 70 63 63 8 70 8 8 1]))))) (zR [Ju 35 10]))))))) (zQ (zS [bO 72 9 3,jN 74 73] (zC 74 (zS [jf 75 8 2,zHB 76,FN 75 4 75 4 75 75 8,dR 5 5 76,zHC,gX 7] .ret) .skip)) (zQ (.join [⟨8,bH,false⟩,⟨4,bH,false⟩,⟨5,[.i .i64,.i .i64],false⟩] 81129638263490954243960358320624 (some [⟨4,bH,false⟩,⟨5,[.i .i64,.i .i64],false⟩,⟨6,[.b],false⟩,⟨7,[.b],false⟩]) (zS [[⟨false,[],[3000008001],.det 1 (.idx .nil),[77,8],(some 77),none⟩],Ob 78 9 2 77,au 11 78] (.block 2 (.loop [⟨8,bH,false⟩,⟨4,bH,false⟩,⟨5,[.i .i64,.i .i64],false⟩,⟨11,[.i .i64],false⟩] 81129637810143771888474417805808 (zQ (zS [au 79 11,zHD 80 79] (zC 80 .skip (.exit 2))) (zQ (.block 3 (zS [dM 84 8 2,dM 85 3 2,au 86 11,DL 87 185 84 85 86,DR 87 83 87 1 1,dC 88 12 88,au 13 89] (zS [zHd 12 12 90 12 90,MP 91 8 8 1 90] (zS [au 92 13,zHD 93 92] (zC 93 (zS [yD 95 12,yD 100 12,dM 94 8 2,zGx 4 95 96 97 97,zHE 4 97 98 98,zGy 4 95 0 4 98 99 99,zGx 4 100 101 102 102,zHE 4 102 103 103,[⟨false,[],[4],.det 1 (.load 100 [(0,4)] 1 (.t 103) 1 false),[104],(some 104),none⟩,⟨false,[],[4],.det 1 (.build [.i .i64,.i .i64] [(0,.t 99),(1,.t 104)]),[105],(some 105),none⟩],dR 4 4 94,dR 5 5 105,gX 6,gX 7] .ret) .skip))))) (zR [au 81 11,yz 82 81,au 11 82]))))))) (zS [dM 106 8 2,zHB 107,dR 4 4 106,dR 5 5 107,bz 6,gX 7] .ret))))))))
def ZQ:aL:=⟨[.rd true nE,.rd true [.d,.d]],(.tup [(true,2),(true,2),(false,1),(false,1)] [.d,.sl (.ro []) [.d,.d,.d,.d],.d,.d,.d,.d])⟩
def ZT:aK:=aD [(180,D9),(123,xB),(129,Lh),(185,Pf)]
def Ll (n:Nat):eB × aP->Option (aBn × Unit):=aH n ZT ZP [bH,[.i .i64,.i .i64]] apa [] [4,5,6,7] .no
def kI:=Ll BIG
def ZU:TSp:=⟨ZQ,[bH,[.i .i64,.i .i64]],apa,[],Ou.j .no,kI⟩
theorem apZ:zK ZT 122 ZQ ZP 108 .no [4,5,6,7]:=by show _=_;kernel_rfl
theorem ak7:ZU.Ok PG 122:=aO (ae Gn (ae Aa (ae TZ (ae afK (ay PG))))) apZ (by kernel_rfl)
theorem ap0 (n) (a0) (a1):Ll n (a0,a1) = ((zi a0).bind fun r0=> bif !r0.1 then some true else (lU a0).bind fun r1=> (CG (r1.1,a1)).bind fun r2=> some !r2.1).bind fun x3=> bif x3 then some (((0:Int),[],(0:Int),(0:Int),false,false),()) else (aJ n (X:=lS × eB × Int) (B:=lS × eB) (fun self5 x4=> bif decide (x4.2.2<(a0.2.length:Int)) then ((bnd a0.2.length x4.2.2 fun n6=> a0.2[n6]?.bind fun y7=> bif decide (y7.1=a1.1) then bnd a0.2.length x4.2.2 fun n8=> a0.2[n8]?.bind fun y9=> some (decide (y9.2.1=a1.2)) else some false).bind fun x10=> bif x10 then bnd a0.2.length x4.2.2 fun n11=> a0.2[n11]?.bind fun y12=> some (y12,x4.2.1) else bnd a0.2.length x4.2.2 fun n13=> a0.2[n13]?.bind fun y14=> bif decide (x4.2.1.2.length+[y14].length<=4294967296) then some (x4.1,(x4.2.1.1,x4.2.1.2++[y14])) else none:Option (lS × eB)).bind fun x15=> self5 (x15.1,x15.2,IntKind.wrap .i64 (x4.2.2+1)) else some (x4.1,x4.2.1)) (((0:Int),(0:Int),(0:Int),false),(a0.1,[]),(0:Int))).bind fun x16=> bif !x16.1.2.2.2 then some ((x16.2.1,x16.2.2,(0:Int),(0:Int),false,true),()) else (aJ n (X:=eB × eB × aP × Int) (B:=(eB × eB × aP) ⊕ (eB × aP × Bool × Bool)) (fun self18 x17=> bif decide (0<=x17.2.2.2) then (rZ (x17.1,a1,x17.2.2.2)).bind fun r19=> bif decide (0<=r19.1.2) then bnd r19.1.1.length r19.1.2 fun n20=> r19.1.1[n20]?.bind fun y21=> bnd r19.1.1.length r19.1.2 fun n22=> r19.1.1[n22]?.bind fun y23=> some (Sum.inr ((x17.1.1,r19.1.1),(y21.1,y23.2.1),true,true)) else self18 ((x17.1.1,r19.1.1),x17.2.1,x17.2.2.1,IntKind.wrap .i64 (x17.2.2.2-1)) else some (Sum.inl (x17.1,x17.2.1,x17.2.2.1))) (x16.2,((0:Int),[]),((0:Int),(0:Int)),x16.1.2.2.1)).bind fun y=>match y with | .inl x24=> some ((x24.1.1,x24.1.2,(0:Int),(0:Int),false,true),()) | .inr x24=> some ((x24.1.1,x24.1.2,x24.2.1.1,x24.2.1.2,x24.2.2),()):=by kernel_rfl
def anh:TC:=
 (zS [dK 2 0,dK 3 1,DJ 4 1000000005,zHp 5 1000000006,bK 6] (zQ (.seq (.join [⟨45,[.b],false⟩] 70368743915520 none (zR [AZ 18 2 7 118,zKa 20 19,rW 22 3,wZ 23 22 3,BM 24 2 1 23 3,S_ 25 3 4 3 119 24 3,DN 27 26 3 21,BQ 30 11 3 0,rW 32 11,wZ 33 32 11,BM 34 2 3 33 11,zEh 35 31 34 11,jH 36 35 11,AU 37 18 3 0,Yu 39 18 2 3,zEz 42 41 18,zEv 43 38 42 18,FP 36 43 44 44 11 29])) (zC 45 (zS [zDe 46,zHk 47,iZ 4 46 4 46,iZ 5 47 5 47,nU 6 1] .ret) .skip)) (zQ (zS [bO 48 3 0,Yx 50 2 3,o8 53 49 52] (zC 53 (zS [AZ 54 2 7 115,FU 56 2 3 4,gz 58 120 57,iZ 4 55 4 55,iZ 5 58 5 58,bK 6] .ret) .skip)) (zS [bO 59 3 0,[o5 (.build iF [(0,.t 60),(1,.c [.b] [.bool true])]) 61 1000000002],zHp 7 1000000008,iZ 7 61 7 61] (zS [[⟨false,[],[3000002002],.det 1 (.idx .nil),[62,2,50,51],(some 62),none⟩],Jp 63 2 1 62 2,DI 8 1000000009,dR 8 8 63] (zQ (.join [⟨8,bH,false⟩,⟨7,iF,false⟩] 1461501637330902918203684832697836275582223253376 none (zS [bO 64 3 1] (.block 0 (zQ (.join [⟨66,[.b],false⟩] 516508834063867445248 none (zS [Td 67 65 1] (zC 66 .skip (zR [Td 68 65 4])))) (zC 66 (zS [bK 9] (.block 1 (.loop [⟨8,bH,false⟩,⟨7,iF,false⟩,⟨9,[.i .i64],false⟩] 19807040038270274039680339840 (zQ (zS [Oh 69 9 3 2 72] (zC 73 .skip (.exit 1))) (zQ (.join [⟨8,bH,false⟩,⟨7,iF,false⟩] 19806965070702358484062571904 none (.block 2 (zS [au 80 9,zHt 1000000011 8 77 77,ML 1000000011 78 78 3 2,zGx 1000000011 79 80 81 81,[⟨false,[],[1000000011],.det 1 (.load 79 [(0,2)] 0 (.t 81) 2 false),[82],(some 82),none⟩],zHw 1000000011 121 77 82 83 83,zMi 1000000011 2 83 76 83 76,DI 10 1000000011,rY 10 84 10 84] (zQ (.join [⟨8,bH,false⟩] 232113757366008801543587072 none (zS [au 86 11] (zC 86 (zR [[⟨false,[],[3000010001],.det 1 (.load 10 [] 0 .nil 2 false),[87,10],(some 87),none⟩],dR 8 8 87]) .skip))) (.join [⟨7,iF,false⟩] 19497555618744739329661206656 none (zR [bO 88 7 1,BS 90 89 11 2,oW 90 91 92,MP 93 7 7 1 92])))))) (zR [gY 74 9 9])))))) (zS [yF 95 65 2 94] (zC 94 (zS [zIa 1000000013 1000000014 8 2 97 97,zMg 1000000013 1000000014 98 98 3 2,zId 1000000013 1000000014 99 100 100,zIe 1000000013 1000000014 99 2 0 100 2 101 101,zKy 1000000013 1000000014 122 97 101 102 102 96 96,zIh 1000000013 1000000014 96 0 2 103 103,zLz 1000000013 1000000014 96 2 2 104 104 4 5,zIj 1000000014 12 1000000013 12,zIk 1000000013 13 1000000014 13,dR 12 12 103,dR 13 13 104,yD 14 105] (zQ (.join [⟨8,bH,false⟩] 486777830487640090174734030864640 none (zS [au 107 15] (zC 107 (zR [dM 108 12 2,dR 8 8 108]) .skip))) (zR [au 109 15,MP 110 7 7 1 109]))) (zS [yF 112 65 3 111] (zC 111 (zS [AZ 113 8 2 123,zIm 114 1 1 115 114,dC 115 16 115] (zS [bK 17] (.block 3 (.loop [⟨8,bH,false⟩,⟨7,iF,false⟩,⟨17,[.i .i64],false⟩] 1461501637330819841453948275474226531714665152896 (zQ (zS [au 116 17,gN 117 16,yA 118 117 116] (zC 119 .skip (.exit 3))) (zQ (.join [⟨8,bH,false⟩,⟨7,iF,false⟩] 1461501637325586006220545169224667791414811165056 none (.block 4 (zQ (.join [⟨139,[.b],false⟩] 1393791257996180806682490776812281472745472 none (zR [gN 122 16,au 123 17,Oe 124 122 123,Yo 126 16 2 125,bO 127 3 3,o8 129 126 128,au 130 129,zIn 16 131 131 8,Yw 132 17 8 131 8,wZ 134 133 8,[o2 135 (.load 16 [(0,2)] 1 (.t 134) 1 false) 8 false],yB 136 8 3 3 8,zDA 138 135 137 8,qU 130 138 139])) (zC 139 (zS [gN 142 16,au 143 17,dM 141 8 2,Og 144 142 143 16 2 2,zMx 146 122 141 145 140,zIo 147 140 0 2,zIo 148 140 2 2,uo 149 140 4,uo 150 140 5,dR 8 8 147] (zR [gN 153 16,au 154 17,uq 151 7 2,Og 155 153 154 16 2 2,zGh 157 156,Yv 152 152 157 158 152 152 7 158 7 7 2])) .skip)))) (zR [Ju 120 17]))))))) .skip))))))))) (zS [AZ 160 8 2 124,jq 162,zGf 7 161 7 3 162 161] (zS [bO 163 2 0,dM 165 8 2,jf 166 7 4,[o1 167 (.build gJ [(0,.t 164),(1,.t 165),(3,.t 166)])],gz 168 115 167,jf 169 7 4,gz 170 120 169,iZ 4 168 4 168,iZ 5 170 5 170,bK 6] .ret))))))))
def ani:aL:=⟨[.rd true N9,.rd true N_],(.tup [(true,7),(true,4),(false,1)] [.d,.d,.sl (.own none) [.d,.d,.d,.d],.d,.d,.sl (.own none) [.d,.d],.sl (.own none) [.d],.d,.d,.sl (.own none) [.d,.d],.sl (.own none) [.d],.d])⟩
def anj:aK:=aD [(118,ZE),(119,KR),(115,Lf),(120,vz),(121,aen),(122,ZU),(123,xB),(124,Ee)]
def R6 (n:Nat):jO × DT->Option (Zt4 × Unit):=aH n anj anh [gJ,kw] Ty4 [] [4,5,6] .no
def nG:=R6 BIG
def acf:TSp:=⟨ani,[gJ,kw],Ty4,[],Ou.j .no,nG⟩
theorem azl:zK anj 40 ani anh 171 .no [4,5,6]:=by show _=_;kernel_rfl
theorem aid:acf.Ok PG 40:=aO (ae ak5 (ae Tv (ae TW (ae BU (ae apY (ae ak7 (ae Aa (ae M4 (ay PG))))))))) azl (by kernel_rfl)
theorem ank (n) (a0) (a1):R6 n (a0,a1) = ((CF a0).bind fun r0=> bif !r0.1 then some true else (Cw (a0.2.1,a1)).bind fun r1=> bif !r1.1 then some true else bif !decide (a1.1=a0.2.2.2.1) then some (!decide (a1.1=(IntKind.wrap .i64 (a0.2.2.2.1+1)))) else some false).bind fun x2=> bif x2 then some (((0:Int),(0:Int),[],(0:Int),false,[],[],(0:Int),false,[],[],(1:Int)),()) else bif decide (a1.1=a0.2.2.2.1) then (pO a0).bind fun r3=> (jy a0.2.2.2).bind fun r4=> some ((r3.1.1,r3.1.2.1,r3.1.2.2.1,r3.1.2.2.2.1,r3.1.2.2.2.2.1,r3.1.2.2.2.2.2.1,r3.1.2.2.2.2.2.2,r4.1.1,r4.1.2.1,r4.1.2.2.1,r4.1.2.2.2,(0:Int)),()) else ((bif decide (a1.2.1=1) then some true else some (decide (a1.2.1=4))).bind fun x5=> bif x5 then aJ n (X:=eB × oK × Int) (B:=eB × oK) (fun self7 x6=> bif decide (x6.2.2<(a1.2.2.1.length:Int)) then (bnd a1.2.2.1.length x6.2.2 fun n8=> a1.2.2.1[n8]?.bind fun y9=> (Bb (x6.1,y9)).bind fun r10=> (bif r10.1.2.2 then some (r10.1.1,r10.1.2.1) else some x6.1).bind fun x11=> (bif x6.2.1.2.1 then some (x6.2.1.1,r10.1.2.2,x6.2.1.2.2) else some (x6.2.1.1,false,x6.2.1.2.2)).bind fun x12=> some (x11,x12):Option (eB × oK)).bind fun x13=> self7 (x13.1,x13.2,IntKind.wrap .i64 (x6.2.2+1)) else some (x6.1,x6.2.1)) ((a0.2.1,a0.2.2.1),(a1.1,true,[],[]),(0:Int)) else bif decide (a1.2.1=2) then bnd a1.2.2.1.length (0:Int) fun n14=> a1.2.2.1[n14]?.bind fun y15=> (kI ((a0.2.1,a0.2.2.1),y15)).bind fun r16=> (bif r16.1.2.2.2.2.2 then some (r16.1.1,r16.1.2.1) else some (a0.2.1,a0.2.2.1)).bind fun x17=> some (x17,(a1.1,r16.1.2.2.2.2.2,[],[])) else bif decide (a1.2.1=3) then (lU (a0.2.1,a0.2.2.1)).bind fun r18=> aJ n (X:=eB × oK × Int) (B:=eB × oK) (fun self20 x19=> bif decide (x19.2.2<(r18.1.2.length:Int)) then ((bnd r18.1.2.length x19.2.2 fun n21=> r18.1.2[n21]?.bind fun y22=> bif decide (y22.1=a1.2.2.2) then some true else bnd r18.1.2.length x19.2.2 fun n23=> r18.1.2[n23]?.bind fun y24=> some (decide (y24.2=a1.2.2.2))).bind fun x25=> bif x25 then bnd r18.1.2.length x19.2.2 fun n26=> r18.1.2[n26]?.bind fun y27=> (kI (x19.1,y27)).bind fun r28=> bnd r18.1.2.length x19.2.2 fun n29=> r18.1.2[n29]?.bind fun y30=> bif decide (x19.2.1.2.2.1.length+[y30].length<=4294967296) then some ((r28.1.1,r28.1.2.1),(x19.2.1.1,x19.2.1.2.1,x19.2.1.2.2.1++[y30],x19.2.1.2.2.2)) else none else some (x19.1,x19.2.1):Option (eB × oK)).bind fun x31=> self20 (x31.1,x31.2,IntKind.wrap .i64 (x19.2.2+1)) else some (x19.1,x19.2.1)) ((a0.2.1,a0.2.2.1),(a1.1,true,[],[]),(0:Int)) else some ((a0.2.1,a0.2.2.1),(a1.1,true,[],[])):Option (eB × oK)).bind fun x32=> (mP x32.1).bind fun r33=> (pO (a0.1,x32.1.1,x32.1.2,x32.2.1,x32.2.2.1,x32.2.2.2.1,r33.1)).bind fun r34=> (jy (x32.2.1,x32.2.2.1,x32.2.2.2.1,r33.1)).bind fun r35=> some ((r34.1.1,r34.1.2.1,r34.1.2.2.1,r34.1.2.2.2.1,r34.1.2.2.2.2.1,r34.1.2.2.2.2.2.1,r34.1.2.2.2.2.2.2,r35.1.1,r35.1.2.1,r35.1.2.2.1,r35.1.2.2.2,(0:Int)),()):=by kernel_rfl
def T9:TC:=
 (zS [dK 4 1] (zS [dA 6,dA 7,au 14 2,rV 8 7,Jn 9 8,zGb 10 14 9,bO 11 4 0,dM 13 4 4,zGc 15 12 13 14,zGd 16 15,zBt 10 10 16 17 10 10 0 17,ny 18 6,zBu 0 17 10 0 14 19 17] (zR [dA 20,zGe 21,ny 22 20,zGf 0 21 0 5 23 21])))
def T_:aL:=⟨[.mp [.d,.sl (.own none) [.d],.sl (.ro []) [.d,.d],.sl (.own none) fF,.sl (.own none) [.d],.d,.d,.d,.d,.d,.d,.d,.sl (.own none) [.d,.d],.d,.sl (.own none) ape],.rd true [.d,.d,.d,.d],.rd false [.d]],.u⟩
def Ua:aK:=aD []
def Ij (n:Nat):eH × qG × Int->Option ((Unit) × Int × List Int × List aP × List (List Int) × List Int × Int × Int × Int × Int × Int × Int × Int × List aP × Int × List ve):=aH n Ua T9 [bC,fO,[.i .i64]] [] bC [] (.mp 0)
def Ad:=Ij BIG
def Ub:TSp:=⟨T_,[bC,fO,[.i .i64]],[],bC,Ou.j (.mp 0),Ad⟩
theorem ak8:zK Ua 55 T_ T9 24 (.mp 0) []:=by show _=_;kernel_rfl
theorem aie:Ub.Ok PG 55:=aO (ay PG) ak8 (by kernel_rfl)
theorem ak9 (n) (a0) (a1) (a2):Ij n (a0,a1,a2) = bif decide (a0.2.2.2.2.2.2.2.2.2.2.2.2.2.2.length+([(a1.1,a1.1,a1.2.1,a1.2.2.1,a1.2.2.2,a2)]).length<=4294967296) then some ((),(a0.1,a0.2.1,a0.2.2.1,a0.2.2.2.1,a0.2.2.2.2.1,(0:Int),(0:Int),(0:Int),(0:Int),(0:Int),(0:Int),(0:Int),[],(0:Int),a0.2.2.2.2.2.2.2.2.2.2.2.2.2.2++([(a1.1,a1.1,a1.2.1,a1.2.2.1,a1.2.2.2,a2)]))) else none:=by kernel_rfl
def aeo:TC:=
 (zS [AR 6] (zS [Yp 10,dC 10 7 10] (zQ (.join [⟨7,[.sl [.i .i64,.i .i64]],false⟩] 144115188075854720 none (zS [bK 8] (.block 0 (.loop [⟨7,[.sl [.i .i64,.i .i64]],false⟩,⟨8,[.i .i64],false⟩] 144115188075854720 (zQ (zS [BR 11 8 1] (zC 14 .skip (.exit 0))) (zQ (.join [⟨7,[.sl [.i .i64,.i .i64]],false⟩] 144115188075725440 none (.block 1 (zS [S9 17 1 8 2 2,qX 9 1000000010,dR 9 9 20] (zQ (.join [⟨52,[.b],false⟩] 9007199252643840 none (zR [FW 21 9 0 0,l9 24 23,yz 25 24,Yq 26 42 22 25,ut 27 26 6 9 1 6,iE 30 0 6,zHh 31 30 6,zMr 32 31 6 42 29 6,lC 27 33 34,iE 36 0 14,AU 37 14 9 0,qW 39 36 38 14,BN 40 36 1 39 14,iE 41 2 14,DK 42 40 41 14,lC 35 42 43,iE 45 0 23,AU 46 23 9 1,qW 48 45 47 23,BN 49 45 1 48 23,iE 50 2 23,DK 51 49 50 23,oW 44 51 52])) (zC 52 (zR [dC 7 53 7,dM 54 9 2,Jv 55 54 53 53 7]) .skip))))) (zR [gY 15 8 8]))))))) (zS [tO 7 57 7 6] .ret))))
def aep:aL:=⟨[.rd false fF,.rd false iG,.rd false [.d]],(.one false iG)⟩
def aeq:aK:=aD [(42,fH)]
def Pg (n:Nat):List Int × (List aP) × Int->Option ((List aP) × Unit):=aH n aeq aeo [[.sl [.i .i64]],[.sl [.i .i64,.i .i64]],[.i .i64]] [.sl [.i .i64,.i .i64]] [] [6] .no
def Ph:=Pg BIG
def aer:TSp:=⟨aep,[[.sl [.i .i64]],[.sl [.i .i64,.i .i64]],[.i .i64]],[.sl [.i .i64,.i .i64]],[],Ou.j .no,Ph⟩
theorem atn:zK aeq 163 aep aeo 58 .no [6]:=by show _=_;kernel_rfl
theorem ap1:aer.Ok PG 163:=aO (ae eU (ay PG)) atn (by kernel_rfl)
theorem ato (n) (a0) (a1) (a2):Pg n (a0,a1,a2) = (aJ n (X:=(List aP) × Int) (B:=(List aP)) (fun self1 x0=> bif decide (x0.2<(a1.length:Int)) then (bnd a1.length x0.2 fun n2=> a1[n2]?.bind fun y3=> ((bE (y3.1,(0:Int),IntKind.wrap .i64 ((a0.length:Int)-1))).bind fun r4=> bif r4.1 then (bE (y3.2,(0:Int),IntKind.wrap .i64 ((a0.length:Int)-1))).bind fun r5=> bif r5.1 then bnd a0.length y3.1 fun n6=> a0[n6]?.bind fun y7=> bif decide (y7=a2) then bnd a0.length y3.2 fun n8=> a0[n8]?.bind fun y9=> some (decide (y9=a2)) else some false else some false else some false).bind fun x10=> bif x10 then bif decide (x0.1.length+[y3].length<=4294967296) then some (x0.1++[y3]) else none else some x0.1:Option ((List aP))).bind fun x11=> self1 (x11,IntKind.wrap .i64 (x0.2+1)) else some x0.1) ([],(0:Int))).bind fun x12=> some (x12,()):=by kernel_rfl
def Pi:TC:=
 (zS [dK 5 1,[o5 (.a (.t 3)) 7 3],bK 8] (zS [dA 9,AY 10 9 4,au 13 2,yz 14 13,FR 15 12 14 0 4 1,BK 17 16,MP 18 7 7 0 17] (zS [yE 19 5 4,au 21 2,jf 22 7 4,zGj,ny 24 19,zGk] (zS [nU 8 2] .ret))))
def Pj:aL:=⟨[.mp [.d,.sl (.own none) [.d],.sl (.ro []) [.d,.d],.sl (.own none) fF,.sl (.own none) [.d],.d,.d,.d,.d,.d,.d,.d,.sl (.own none) [.d,.d],.d,.sl (.own none) ape],.rd true [.d,.d,.d,.d],.rd false [.d],.tk true N_],(.one false [.d])⟩
def Pk:aK:=aD []
def Ej (n:Nat):eH × qG × Int × DT->Option ((Int) × Int × List Int × List aP × List (List Int) × List Int × Int × Int × Int × Int × Int × Int × Int × List aP × Int × List ve):=aH n Pk Pi [bC,fO,[.i .i64],kw] [.i .i64] bC [8] (.mp 0)
def El:=Ej BIG
def Pm:TSp:=⟨Pj,[bC,fO,[.i .i64],kw],[.i .i64],bC,Ou.j (.mp 0),El⟩
theorem aif:zK Pk 57 Pj Pi 26 (.mp 0) [8]:=by show _=_;kernel_rfl
theorem afL:Pm.Ok PG 57:=aO (ay PG) aif (by kernel_rfl)
theorem aig (n) (a0) (a1) (a2) (a3):Ej n (a0,a1,a2,a3) = bnd a0.2.2.2.2.1.length (IntKind.wrap .i64 (a2-1)) fun n0=> a0.2.2.2.2.1[n0]?.bind fun y1=> some ((2:Int),(a0.1,a0.2.1,a0.2.2.1,a0.2.2.2.1,a0.2.2.2.2.1,a1.1,a1.2.1,a1.2.2.1,a1.2.2.2,a2,IntKind.wrap .i64 (y1+1),a3.2.1,a3.2.2.1,a3.2.2.2,a0.2.2.2.2.2.2.2.2.2.2.2.2.2.2)):=by kernel_rfl
def Uc:TC:=
 (zS [dK 4 1,bK 6] (zS [dA 11,Ta 12 11 0 2,au 7 14] (zQ (.join [⟨0,bC,false⟩,⟨7,[.sl [.i .i64,.i .i64]],false⟩] 68719444417 (some [⟨6,[.i .i64],false⟩,⟨0,bC,false⟩]) (zS [bK 8] (.block 0 (.loop [⟨0,bC,false⟩,⟨7,[.sl [.i .i64,.i .i64]],false⟩,⟨8,[.i .i64],false⟩] 68719444417 (zQ (zS [BR 15 8 2] (zC 18 .skip (.exit 0))) (zQ (.block 1 (zQ (zS [df 21 7 2,au 23 8,kN 24 22 23 2 2,jI 26 143 21 25] (zC 26 (zS [yE 27 4 4,Od 55 0 28 3 29 0 29] (zS [nU 6 1] .ret)) .skip)) (zR [df 30 7 2,au 32 8,kN 33 31 32 2 2,jI 35 130 30 34,zIp 35 35 7 35 7]))) (zR [gY 19 8 8]))))))) (zS [FQ 36 1,o9 40 4 2 4 3,wW 44 39 41,zBg 0 39 0 1 1 0 44 43] (zS [dA 45,au 49 7,AY 46 45 1,bO 50 4 3,DL 52 163 48 49 51,dC 52 9 52] (zQ (.join [⟨7,[.sl [.i .i64,.i .i64]],false⟩] 36884480948164363392 none (zS [bK 10] (.block 2 (.loop [⟨7,[.sl [.i .i64,.i .i64]],false⟩,⟨10,[.i .i64],false⟩] 36884480948164363392 (zQ (zS [au 53 10,gN 54 9,yA 55 54 53] (zC 56 .skip (.exit 2))) (zQ (.block 3 (zR [au 59 7,gN 60 9,au 61 10,Og 62 60 61 9 2 2,jI 64 131 59 63,zIp 64 64 7 64 7])) (zR [Ju 57 10]))))))) (zS [dA 65,au 66 7,ny 67 65,[o4 1 [0,44,48] (.store 0 [] 2 (.t 68) (.t 66))]] (zQ (zS [gN 69 9,l9 70 69,wX 71 70 0] (zC 71 (zS [yE 72 4 4,Od 55 0 73 1 74 0 74] (zS [nU 6 1] .ret)) .skip)) (zS [yE 75 4 4,bO 77 4 3,zIq 9 79 9 54 69 79,zIr 4 79 80 79 80,zGA 57 0 76 78 80 81 0 80 81,au 6 81] .ret)))))))))
def Ud:aL:=⟨[.mp [.d,.sl (.own none) [.d],.sl (.ro []) [.d,.d],.sl (.own none) fF,.sl (.own none) [.d],.d,.d,.d,.d,.d,.d,.d,.sl (.own none) [.d,.d],.d,.sl (.own none) ape],.rd true [.d,.d,.d,.d],.rd false iG],(.one false [.d])⟩
def Ue:aK:=aD [(143,A9),(55,Ub),(130,Gl),(163,aer),(131,Bz),(57,Pm)]
def Ik (n:Nat):eH × qG × (List aP)->Option ((Int) × Int × List Int × List aP × List (List Int) × List Int × Int × Int × Int × Int × Int × Int × Int × List aP × Int × List ve):=aH n Ue Uc [bC,fO,[.sl [.i .i64,.i .i64]]] [.i .i64] bC [6] (.mp 0)
def Il:=Ik BIG
def Uf:TSp:=⟨Ud,[bC,fO,[.sl [.i .i64,.i .i64]]],[.i .i64],bC,Ou.j (.mp 0),Il⟩
theorem ak_:zK Ue 81 Ud Uc 82 (.mp 0) [6]:=by show _=_;kernel_rfl
theorem aih:Uf.Ok PG 81:=aO (ae Cy (ae aie (ae KY (ae ap1 (ae JC (ae afL (ay PG))))))) ak_ (by kernel_rfl)
theorem ala (n) (a0) (a1) (a2):Ik n (a0,a1,a2) = (aJ n (X:=eH × (List aP) × Int) (B:=(eH × (List aP)) ⊕ Zt0) (fun self1 x0=> bif decide (x0.2.2<(a2.length:Int)) then bnd a2.length x0.2.2 fun n2=> a2[n2]?.bind fun y3=> (vY (x0.2.1,y3)).bind fun r4=> bif r4.1 then (Ad (x0.1,a1,(3:Int))).bind fun r5=> some (Sum.inr ((1:Int),r5.2)) else bnd a2.length x0.2.2 fun n6=> a2[n6]?.bind fun y7=> (A_ (x0.2.1,y7)).bind fun r8=> self1 (x0.1,r8.1,IntKind.wrap .i64 (x0.2.2+1)) else some (Sum.inl (x0.1,x0.2.1))) (a0,a0.2.2.1,(0:Int))).bind fun y=>match y with | .inl x9=> bnd x9.1.2.1.length a1.2.2.1 fun n10=> x9.1.2.1[n10]?.bind fun y11=> (Ph (x9.1.2.1.set n10 a1.2.2.2,x9.2,a1.2.2.2)).bind fun r12=> (aJ n (X:=(List aP) × Int) (B:=(List aP)) (fun self14 x13=> bif decide (x13.2<(r12.1.length:Int)) then bnd r12.1.length x13.2 fun n15=> r12.1[n15]?.bind fun y16=> (uM (x13.1,y16)).bind fun r17=> self14 (r17.1,IntKind.wrap .i64 (x13.2+1)) else some x13.1) (x9.2,(0:Int))).bind fun x18=> bif decide ((r12.1.length:Int)=0) then (Ad ((x9.1.1,x9.1.2.1.set n10 a1.2.2.2,x18,x9.1.2.2.2),a1,(1:Int))).bind fun r19=> some ((1:Int),r19.2) else (El ((x9.1.1,x9.1.2.1.set n10 a1.2.2.2,x18,x9.1.2.2.2),a1,a1.2.2.2,((0:Int),(4:Int),r12.1,(0:Int)))).bind fun r20=> some (r20.1,r20.2) | .inr x9=> some (x9.1,x9.2):=by kernel_rfl
def anl:TC:=
 (zS [dK 3 0,dK 5 2,p_ 6 1000000007,bK 7] (zS [AZ 12 3 15 51,p_ 8 1000000009,iZ 8 13 8 13] (zQ (.seq (.join [⟨44,[.b],false⟩] 35184372072448 none (zR [dM 14 3 15,gz 15 52 14,FX 16 15 3 3 0 3,S_ 20 5 4 3 80 19 3,DN 22 21 3 17,BP 25 3 15 10,SH 39 25 26 26 10,DN 27 26 10 24,jH 30 1 15,rW 31 15,wZ 32 31 15,BM 33 3 9 32 15,Jt 34 30 33 15 29,au 36 35,BQ 37 22 5 0,rW 39 22,wZ 40 39 22,wZ 41 40 22,BM 42 3 10 41 22,Jt 43 38 42 22 36])) (zC 44 (zS [w9 45 8 15 6 6 8,bK 7] .ret) .skip)) (zS [FU 46 3 5 9,zEw 9 1000000010,dR 9 9 47] (zS [uq 48 8 4,au 50 1,yz 51 50,bO 52 5 0,wW 54 49 51,zBg 8 49 8 4 1 0 54 53] (zS [au 57 1,uq 55 8 3,yz 58 57,zBa 59,bO 60 5 3,yw 59 61 62 59,wW 63 56 58,[o4 2 [8,62,48,54,63,56,55] (.store 8 [(3,1)] 0 (.t 63) (.t 62))]] (zQ (.seq (.join [⟨73,[.b],false⟩] 18871019187404871303168 none (zR [Yx 64 9 1,wX 67 66 4,au 68 67,qV 69 4,Jq 70 69 4,BL 71 9 6 70 4,zIs 72 71 3 4,oW 68 72 73])) (zC 73 (zS [FU 74 9 0 4,bO 76 5 2,[⟨false,[],[3000008002],.call 2 81 [.t 8,.t 75,.t 77] (.mp 0),[78,8,8],(some 78),none⟩],au 10 78] (zS [jf 79 8 15,gz 80 51 79,au 81 10,rY 6 80 6 80] .ret)) .skip)) (zS [nU 11 1] (zQ (.join [⟨11,[.i .i64],false⟩] 2471044375292302033099425792 none (zQ (.join [⟨90,[.b],false⟩] 2471044375292302033099423744 none (zR [Yx 82 9 1,zDi 85 84 4,ut 86 85 4 5 1 4,zEc 89 88 4,oW 86 89 90])) (zC 90 (zR [nU 11 2]) .skip))) (zS [FU 91 9 0 4,au 93 11,zGt 55 8 92 93 94 8 94] (zS [w9 95 8 15 6 6 8,nU 7 1] .ret)))))))))))
def anm:aL:=⟨[.rd true oV,.rd false [.d],.rd true MJ],(.tup [(true,15),(false,1)] Ct0)⟩
def ann:aK:=aD [(51,Ct),(52,OM),(80,Ii),(39,R5),(81,Uf),(55,Gi)]
def acg (n:Nat):eH × Int × oK->Option (Zt2 × Unit):=aH n ann anl [bC,[.i .i64],iF] Ty0 [] [6,7] .no
def zm:=acg BIG
def ach:TSp:=⟨anm,[bC,[.i .i64],iF],Ty0,[],Ou.j .no,zm⟩
theorem azm:zK ann 19 anm anl 96 .no [6,7]:=by show _=_;kernel_rfl
theorem aii:ach.Ok PG 19:=aO (ae H6 (ae Y7 (ae O3 (ae Wq (ae aih (ae KS (ay PG))))))) azm (by kernel_rfl)
theorem azn (n) (a0) (a1) (a2):acg n (a0,a1,a2) = (nV a0).bind fun r0=> ((A8 a0).bind fun r1=> bif !r1.1 then some true else (Ac (a0.1,a2)).bind fun r2=> bif !r2.1 then some true else (Da a0).bind fun r3=> bif !r3.1 then some true else bif !decide (a1=a0.2.2.2.2.2.2.2.2.2.1) then some true else some (!decide (a2.1=a0.2.2.2.2.2.2.2.2.2.2.1))).bind fun x4=> bif x4 then some ((r0.1.1,r0.1.2.1,r0.1.2.2.1,r0.1.2.2.2.1,r0.1.2.2.2.2.1,r0.1.2.2.2.2.2.1,r0.1.2.2.2.2.2.2.1,r0.1.2.2.2.2.2.2.2.1,r0.1.2.2.2.2.2.2.2.2.1,r0.1.2.2.2.2.2.2.2.2.2.1,r0.1.2.2.2.2.2.2.2.2.2.2.1,r0.1.2.2.2.2.2.2.2.2.2.2.2.1,r0.1.2.2.2.2.2.2.2.2.2.2.2.2.1,r0.1.2.2.2.2.2.2.2.2.2.2.2.2.2.1,r0.1.2.2.2.2.2.2.2.2.2.2.2.2.2.2,(0:Int)),()) else bnd r0.1.2.2.2.2.1.length (IntKind.wrap .i64 (a1-1)) fun n5=> r0.1.2.2.2.2.1[n5]?.bind fun y6=> bif decide (0+a2.2.2.2.length<=4294967296) then bnd r0.1.2.2.2.1.length (IntKind.wrap .i64 (a1-1)) fun n7=> r0.1.2.2.2.1[n7]?.bind fun y8=> (bif decide (a0.2.2.2.2.2.2.1=4) then some (decide (a0.2.2.2.2.2.2.2.2.2.2.2.1=3)) else some false).bind fun x9=> bif x9 then (Il ((r0.1.1,r0.1.2.1,r0.1.2.2.1,r0.1.2.2.2.1.set n7 ([]++a2.2.2.2),r0.1.2.2.2.2.1.set n5 a2.1,r0.1.2.2.2.2.2),(a0.2.2.2.2.2.1,a0.2.2.2.2.2.2.1,a0.2.2.2.2.2.2.2.1,a0.2.2.2.2.2.2.2.2.1),a2.2.2.1)).bind fun r10=> (nV r10.2).bind fun r11=> some ((r11.1.1,r11.1.2.1,r11.1.2.2.1,r11.1.2.2.2.1,r11.1.2.2.2.2.1,r11.1.2.2.2.2.2.1,r11.1.2.2.2.2.2.2.1,r11.1.2.2.2.2.2.2.2.1,r11.1.2.2.2.2.2.2.2.2.1,r11.1.2.2.2.2.2.2.2.2.2.1,r11.1.2.2.2.2.2.2.2.2.2.2.1,r11.1.2.2.2.2.2.2.2.2.2.2.2.1,r11.1.2.2.2.2.2.2.2.2.2.2.2.2.1,r11.1.2.2.2.2.2.2.2.2.2.2.2.2.2.1,r11.1.2.2.2.2.2.2.2.2.2.2.2.2.2.2,r10.1),()) else ((bif !decide (a0.2.2.2.2.2.2.1=4) then some !a2.2.1 else some false).bind fun x12=> bif x12 then some (2:Int) else some (1:Int)).bind fun x13=> (o_ ((r0.1.1,r0.1.2.1,r0.1.2.2.1,r0.1.2.2.2.1.set n7 ([]++a2.2.2.2),r0.1.2.2.2.2.1.set n5 a2.1,r0.1.2.2.2.2.2),(a0.2.2.2.2.2.1,a0.2.2.2.2.2.2.1,a0.2.2.2.2.2.2.2.1,a0.2.2.2.2.2.2.2.2.1),x13)).bind fun r14=> some ((r14.2.1,r14.2.2.1,r14.2.2.2.1,r14.2.2.2.2.1,r14.2.2.2.2.2.1,r14.2.2.2.2.2.2.1,r14.2.2.2.2.2.2.2.1,r14.2.2.2.2.2.2.2.2.1,r14.2.2.2.2.2.2.2.2.2.1,r14.2.2.2.2.2.2.2.2.2.2.1,r14.2.2.2.2.2.2.2.2.2.2.2.1,r14.2.2.2.2.2.2.2.2.2.2.2.2.1,r14.2.2.2.2.2.2.2.2.2.2.2.2.2.1,r14.2.2.2.2.2.2.2.2.2.2.2.2.2.2.1,r14.2.2.2.2.2.2.2.2.2.2.2.2.2.2.2,(1:Int)),()) else none:=by kernel_rfl
def ZW:TC:=
 (zS [bK 6,bK 7,zIt 8] (zS [dA 28,zAz 116 29 29,au 9 29] (zS [dA 30,zAB 0 3 31 0 31,zAe 32 1 31,au 10 32] (zS [[o1 33 (.sli Ty6 [])],dC 33 11 33] (zS [[o1 34 (.sli Ty6 [])],zIu 34 34 12 34 34 12] (zS [yD 36 9,jI 38 110 36 37,zLA 38 35 38 15,p_ 13 1000000014,rY 13 39 13 39] (zS [[⟨false,[],[3000013012],.det 1 (.sli gJ []),[41,13],(some 41),none⟩],dC 41 15 41] (zQ (.join [⟨15,Ty7,false⟩] 144110790029836288 none (zS [nU 16 1] (.block 0 (.loop [⟨15,Ty7,false⟩,⟨16,[.i .i64],false⟩] 144110790029836288 (zQ (zS [df 42 16 10,[o1 44 (.data (.bin .leq) [.t 42,.t 43])]] (zC 44 .skip (.exit 0))) (zQ (.block 1 (zS [df 48 16 9,jI 50 114 48 49,DR 50 47 50 7 7,DJ 17 1000000018,rY 17 51 17 51] (zR [dC 15 53 15,jf 54 17 7,[⟨false,[54],[],.det 2 (.sli gJ [.t 54]),[55,54,54,17],(some 55),none⟩],zDr 53 55 56 53 55 56,dC 56 15 56]))) (zR [Ju 45 16]))))))) (zQ (.join [⟨0,gT,false⟩,⟨11,yn,false⟩,⟨12,yn,false⟩] 11150372599265311570767858992208992945092609 none (zS [bK 19] (.block 2 (.loop [⟨0,gT,false⟩,⟨13,bC,false⟩,⟨11,yn,false⟩,⟨15,Ty7,false⟩,⟨12,yn,false⟩,⟨19,[.i .i64],false⟩] 11150372599265311570767858992208992945092609 (zQ (zS [au 57 19,dA 58,au 59 1,gz 60 117 59,zDg 61 60 2,SG 112 61 62 62,zAe 63 2 62,gy 64 57 63] (zC 64 .skip (.exit 2))) (zQ (.join [⟨0,gT,false⟩,⟨13,bC,false⟩,⟨11,yn,false⟩,⟨15,Ty7,false⟩,⟨12,yn,false⟩] 11150372599265311570767711562371591344011265 none (.block 3 (zQ (zS [jf 67 13 15,gz 68 39 67,jN 69 68] (zC 69 (zS [dA 70,au 71 9,df 72 10 19,BK 74 73,[⟨false,[],[],.call 2 41 [.t 0,.t 71,.t 72,.t 74] (.mp 0),[75,0],(some 75),none⟩],zDk 20 1000000021,dR 20 20 75] (zS [jf 77 13 15,yC 78 20 4 11 77,zLA 79 76 79 15,p_ 21 1000000022,rY 21 80 21 80] (zQ (.join [⟨13,bC,false⟩,⟨11,yn,false⟩] 1267645915788252347398329739264 none (zQ (.join [⟨21,bC,false⟩,⟨93,[.b],false⟩] 19802204925287625881689260032 none (zR [zHx 3000021012 1 22 82 21 82,zDi 83 82 0,ut 84 83 2 20 2 2,[o2 87 (.data (.bin .geq) [.t 86,kD 0]) 2 true],lC 84 87 88,vV 90 7 20 3 7,[o2 92 (.data (.bin .geq) [.t 91,kD 0]) 7 true],oW 89 92 93])) (zC 93 (zS [jf 94 21 15,[⟨false,[94],[],.det 2 (.store 13 [] 0 .nil (.t 94)),[13,94,94,21,67,77],none,none⟩]] (zR [dC 11 95 11,dM 96 20 4,zIv 1 1 96 97,zIw 97 98 97,zDr 95 98 99 95 98 99,dC 99 11 99])) .skip))) (.exit 3)))) .skip)) (zS [Yx 100 13 9,au 23 102] (zS [zLn 103,Jp 105 13 10 104 4,zDp 24 1000000025,dR 24 24 105] (zS [FV 107 15 23,[⟨false,[],[1000000026,1000000027],.det 1 (.data (.bin .sub) [.t 108,kD 1]),[109],(some 109),none⟩],zIx 1000000026 1000000027 107 109 110 110,[⟨false,[],[1000000026,1000000027],.det 1 (.load 15 [(0,7)] 0 (.t 110) 7 true),[111],(some 111),none⟩],zIa 1000000026 1000000027 24 4 112 112,zKz 1000000026 1000000027 40 111 112 113 113 106 106 0 7,zIy 1000000026 1000000027 106 7 4 115 106 115,zIi 1000000026 1000000027 106 11 116 116,zIz 1000000027 25 1000000026 25,zIA 1000000026 26 1000000027 26,iZ 25 114 25 114,rY 26 115 26 115] (zS [FV 117 15 23,yz 119 118,jf 120 25 7,wW 121 117 119,[⟨false,[120],[],.det 2 (.store 15 [(0,7)] 0 (.t 121) (.t 120)),[15,120,120,25,107,110,111,121,117],none,none⟩]] (zQ (.join [⟨12,yn,false⟩] 1355812555700614190361883201485951471616 none (zS [df 122 23 2,o8 124 122 123] (zC 124 (zR [dC 12 125 12,dM 126 24 4,zIv 3 10 126 127,zIw 127 128 127,zIB 128 125 128 129 125 128 129,dC 129 12 129]) .skip))) (zS [jf 131 13 15,au 132 23,jf 133 26 4,DL 134 19 131 132 133,zLA 134 130 134 15,[o4 2 [13,135,67,131] (.store 13 [] 0 .nil (.t 135))]] (zR [[⟨false,[],[3000013012],.det 2 (.copy 11),[137,11,13,100,101,103,104],(some 137),none⟩],au 138 23,jf 139 26 4,[⟨false,[139],[],.det 3 (.build Ty6 [(0,kO 2),(5,.t 138),(6,.t 139)]),[140,1000000001,139,139,26,133],(some 140),none⟩],zIw 140 141 140,zDr 137 141 142 137 141 142,dC 142 11 142])))))))))) (zR [Ju 65 19]))))))) (zQ (zS [au 143 2,Yn 144 143 0] (zC 144 (zS [yD 145 9,dC 12 147 12,yD 6 145,dC 147 8 147] .ret) .skip)) (zS [yD 148 9,dC 11 150 11,yD 6 148,zIu 150 150 8 150 150 8] .ret)))))))))))
def ZX:aL:=⟨[.mp [.sl (.ro []) [.d],.d,.d],.rd false fF,.rd false [.d]],(.tup [(false,1),(false,1),(false,1)] [.d,.d,.sl (.own none) [.d,.d,.d,.d,.d,.d,.d,.d,.sl (.ro []) [.d,.d],.sl (.ro []) [.d],.d,.d,.sl (.ro []) [.d,.d],.d]])⟩
def ZY:aK:=aD [(116,am9),(112,l_),(110,KI),(114,H5),(117,YM),(39,R5),(41,adO),(11,acd),(40,acf),(19,ach)]
def Lm (n:Nat):(List Int × Int × Int) × List Int × Int->Option (Zt5 × List Int × Int × Int):=aH n ZY ZW [gT,[.sl [.i .u8]],[.i .i64]] Ty3 gT [6,7,8] (.mp 0)
def CJ:=Lm BIG
def Lp:TSp:=⟨ZX,[gT,[.sl [.i .u8]],[.i .i64]],Ty3,gT,Ou.j (.mp 0),CJ⟩
theorem ap2:zK ZY 108 ZX ZW 151 (.mp 0) [6,7,8]:=by show _=_;kernel_rfl
theorem Ug:Lp.Ok PG 108:=aO (ae avV (ae mO (ae Tj (ae Ow (ae akP (ae Wq (ae apn (ae ah2 (ae aid (ae aii (ay PG))))))))))) ap2 (by kernel_rfl)
theorem ap3 (n) (a0) (a1) (a2):Lm n (a0,a1,a2) = (R4 a0).bind fun r0=> (fG (r0.2,(3:Int))).bind fun r1=> (tq (r0.1,IntKind.wrap .i64 ((1:Int)+r1.1))).bind fun r2=> (aJ n (X:=(List Zt9) × Int) (B:=(List Zt9)) (fun self4 x3=> bif decide (x3.2<=(IntKind.wrap .i64 ((1:Int)+r1.1))) then (z8 (x3.2,r0.1)).bind fun r5=> bif decide (x3.1.length+([(r5.1.1,r5.1.2.1,r5.1.2.2.1,r5.1.2.2.2.1,r5.1.2.2.2.2.1,r5.1.2.2.2.2.2.1,r5.1.2.2.2.2.2.2.1)]).length<=4294967296) then self4 (x3.1++([(r5.1.1,r5.1.2.1,r5.1.2.2.1,r5.1.2.2.2.1,r5.1.2.2.2.2.1,r5.1.2.2.2.2.2.1,r5.1.2.2.2.2.2.2.1)]),IntKind.wrap .i64 (x3.2+1)) else none else some x3.1) ([],(1:Int))).bind fun x6=> (aJ n (X:=(List Int × Int × Int) × eH × (List YB) × (List Zt9) × (List YB) × Int) (B:=(List Int × Int × Int) × (List YB) × (List YB)) (fun self8 x7=> (KL a1).bind fun r9=> bif decide (2=0) then none else (fG (x7.1,IntKind.wrap .i64 (Int.tdiv r9.1 (2:Int)))).bind fun r10=> bif decide (x7.2.2.2.2.2<(IntKind.wrap .i64 ((2:Int)+r10.1))) then ((Da x7.2.1).bind fun r11=> bif !r11.1 then (Oy (r10.2,r0.1,IntKind.wrap .i64 ((1:Int)+r1.1),IntKind.wrap .i64 (x7.2.2.2.2.2+1))).bind fun r12=> (Db (x7.2.1,r12.1)).bind fun r13=> ((bif !decide (r13.1.2.2.2.2.2.2.2.2.2.2.2.2.2.2.2=0) then bif decide (0<=r12.1.2.2.1) then some ((r13.1.1,r13.1.2.1,r13.1.2.2.1,r13.1.2.2.2.1,r13.1.2.2.2.2.1,r13.1.2.2.2.2.2.1,r13.1.2.2.2.2.2.2.1,r13.1.2.2.2.2.2.2.2.1,r13.1.2.2.2.2.2.2.2.2.1,r13.1.2.2.2.2.2.2.2.2.2.1,r13.1.2.2.2.2.2.2.2.2.2.2.1,r13.1.2.2.2.2.2.2.2.2.2.2.2.1,r13.1.2.2.2.2.2.2.2.2.2.2.2.2.1,r13.1.2.2.2.2.2.2.2.2.2.2.2.2.2.1,r13.1.2.2.2.2.2.2.2.2.2.2.2.2.2.2.1),decide (0<=r12.1.2.2.2)) else some ((r13.1.1,r13.1.2.1,r13.1.2.2.1,r13.1.2.2.2.1,r13.1.2.2.2.2.1,r13.1.2.2.2.2.2.1,r13.1.2.2.2.2.2.2.1,r13.1.2.2.2.2.2.2.2.1,r13.1.2.2.2.2.2.2.2.2.1,r13.1.2.2.2.2.2.2.2.2.2.1,r13.1.2.2.2.2.2.2.2.2.2.2.1,r13.1.2.2.2.2.2.2.2.2.2.2.2.1,r13.1.2.2.2.2.2.2.2.2.2.2.2.2.1,r13.1.2.2.2.2.2.2.2.2.2.2.2.2.2.1,r13.1.2.2.2.2.2.2.2.2.2.2.2.2.2.2.1),false) else some ((r13.1.1,r13.1.2.1,r13.1.2.2.1,r13.1.2.2.2.1,r13.1.2.2.2.2.1,r13.1.2.2.2.2.2.1,r13.1.2.2.2.2.2.2.1,r13.1.2.2.2.2.2.2.2.1,r13.1.2.2.2.2.2.2.2.2.1,r13.1.2.2.2.2.2.2.2.2.2.1,r13.1.2.2.2.2.2.2.2.2.2.2.1,r13.1.2.2.2.2.2.2.2.2.2.2.2.1,r13.1.2.2.2.2.2.2.2.2.2.2.2.2.1,r13.1.2.2.2.2.2.2.2.2.2.2.2.2.2.1,r13.1.2.2.2.2.2.2.2.2.2.2.2.2.2.2.1),false)).bind fun x14=> bif x14.2 then bif decide (x7.2.2.1.length+([((1:Int),r12.1.1,r12.1.2.1,r12.1.2.2.1,r12.1.2.2.2,(0:Int),(0:Int),false,([]:List aP),([]:List Int),(0:Int),(0:Int),([]:List aP),(0:Int))]).length<=4294967296) then some (x14.1,x7.2.2.1++([((1:Int),r12.1.1,r12.1.2.1,r12.1.2.2.1,r12.1.2.2.2,(0:Int),(0:Int),false,[],[],(0:Int),(0:Int),[],(0:Int))])) else none else some (x7.2.1,x7.2.2.1):Option (eH × (List YB))).bind fun x15=> some (r12.2,x15.1,x15.2,x7.2.2.2.1,x7.2.2.2.2.1) else bnd x7.2.2.2.1.length (IntKind.wrap .i64 (x7.2.1.2.2.2.2.2.2.2.2.2.1-1)) fun n16=> x7.2.2.2.1[n16]?.bind fun y17=> (nG (y17,(x7.2.1.2.2.2.2.2.2.2.2.2.2.1,x7.2.1.2.2.2.2.2.2.2.2.2.2.2.1,x7.2.1.2.2.2.2.2.2.2.2.2.2.2.2.1,x7.2.1.2.2.2.2.2.2.2.2.2.2.2.2.2.1))).bind fun r18=> bnd x7.2.2.2.1.length (IntKind.wrap .i64 (x7.2.1.2.2.2.2.2.2.2.2.2.1-1)) fun n19=> x7.2.2.2.1[n19]?.bind fun y20=> (bif decide (x7.2.1.2.2.2.2.2.2.2.2.2.1=a2) then bif decide (x7.2.2.2.2.1.length+([((3:Int),(0:Int),(0:Int),(0:Int),(0:Int),(0:Int),(0:Int),false,([]:List aP),([]:List Int),x7.2.1.2.2.2.2.2.2.2.2.2.2.1,x7.2.1.2.2.2.2.2.2.2.2.2.2.2.1,x7.2.1.2.2.2.2.2.2.2.2.2.2.2.2.1,x7.2.1.2.2.2.2.2.2.2.2.2.2.2.2.2.1)]).length<=4294967296) then some (x7.2.2.2.2.1++([((3:Int),(0:Int),(0:Int),(0:Int),(0:Int),(0:Int),(0:Int),false,[],[],x7.2.1.2.2.2.2.2.2.2.2.2.2.1,x7.2.1.2.2.2.2.2.2.2.2.2.2.2.1,x7.2.1.2.2.2.2.2.2.2.2.2.2.2.2.1,x7.2.1.2.2.2.2.2.2.2.2.2.2.2.2.2.1)])) else none else some x7.2.2.2.2.1:Option ((List YB))).bind fun x21=> (zm (x7.2.1,x7.2.1.2.2.2.2.2.2.2.2.2.1,(r18.1.2.2.2.2.2.2.2.1,r18.1.2.2.2.2.2.2.2.2.1,r18.1.2.2.2.2.2.2.2.2.2.1,r18.1.2.2.2.2.2.2.2.2.2.2.1))).bind fun r22=> bif decide (x7.2.2.1.length+([((2:Int),(0:Int),(0:Int),(0:Int),(0:Int),x7.2.1.2.2.2.2.2.2.2.2.2.1,r18.1.2.2.2.2.2.2.2.1,r18.1.2.2.2.2.2.2.2.2.1,r18.1.2.2.2.2.2.2.2.2.2.1,r18.1.2.2.2.2.2.2.2.2.2.2.1,(0:Int),(0:Int),([]:List aP),(0:Int))]).length<=4294967296) then some (r10.2,(r22.1.1,r22.1.2.1,r22.1.2.2.1,r22.1.2.2.2.1,r22.1.2.2.2.2.1,r22.1.2.2.2.2.2.1,r22.1.2.2.2.2.2.2.1,r22.1.2.2.2.2.2.2.2.1,r22.1.2.2.2.2.2.2.2.2.1,r22.1.2.2.2.2.2.2.2.2.2.1,r22.1.2.2.2.2.2.2.2.2.2.2.1,r22.1.2.2.2.2.2.2.2.2.2.2.2.1,r22.1.2.2.2.2.2.2.2.2.2.2.2.2.1,r22.1.2.2.2.2.2.2.2.2.2.2.2.2.2.1,r22.1.2.2.2.2.2.2.2.2.2.2.2.2.2.2.1),x7.2.2.1++([((2:Int),(0:Int),(0:Int),(0:Int),(0:Int),x7.2.1.2.2.2.2.2.2.2.2.2.1,r18.1.2.2.2.2.2.2.2.1,r18.1.2.2.2.2.2.2.2.2.1,r18.1.2.2.2.2.2.2.2.2.2.1,r18.1.2.2.2.2.2.2.2.2.2.2.1,(0:Int),(0:Int),[],(0:Int))]),x7.2.2.2.1.set n19 (r18.1.1,r18.1.2.1,r18.1.2.2.1,r18.1.2.2.2.1,r18.1.2.2.2.2.1,r18.1.2.2.2.2.2.1,r18.1.2.2.2.2.2.2.1),x21) else none:Option ((List Int × Int × Int) × eH × (List YB) × (List Zt9) × (List YB))).bind fun x23=> self8 (x23.1,x23.2.1,x23.2.2.1,x23.2.2.2.1,x23.2.2.2.2,IntKind.wrap .i64 (x7.2.2.2.2.2+1)) else some (r10.2,x7.2.2.1,x7.2.2.2.2.1)) (r1.2,(r2.1.1,r2.1.2.1,r2.1.2.2.1,r2.1.2.2.2.1,r2.1.2.2.2.2.1,r2.1.2.2.2.2.2.1,r2.1.2.2.2.2.2.2.1,r2.1.2.2.2.2.2.2.2.1,r2.1.2.2.2.2.2.2.2.2.1,r2.1.2.2.2.2.2.2.2.2.2.1,r2.1.2.2.2.2.2.2.2.2.2.2.1,r2.1.2.2.2.2.2.2.2.2.2.2.2.1,r2.1.2.2.2.2.2.2.2.2.2.2.2.2.1,r2.1.2.2.2.2.2.2.2.2.2.2.2.2.2.1,r2.1.2.2.2.2.2.2.2.2.2.2.2.2.2.2.1),[],x6,[],(0:Int))).bind fun x24=> bif decide (0<a2) then some ((r0.1,IntKind.wrap .i64 ((1:Int)+r1.1),x24.2.2),x24.1) else some ((r0.1,IntKind.wrap .i64 ((1:Int)+r1.1),x24.2.1),x24.1):=by kernel_rfl
def JG:TC:=
 (zS [bK 2,bK 3,zIt 4] (zS [au 5 0,gz 6 37 5,au 7 0,Od 108 6 7 0 8 6 8,uo 9 8 0,uo 10 8 1,zIm 8 2 1 11 8,yD 2 9,dC 11 4 11] .ret))
def JH:aL:=⟨[.rd false fF],(.tup [(false,1),(false,1),(false,1)] [.d,.d,.sl (.own none) [.d,.d,.d,.d,.d,.d,.d,.d,.sl (.ro [0]) [.d,.d],.sl (.ro [0]) [.d],.d,.d,.sl (.ro [0]) [.d,.d],.d]])⟩
def JI:aK:=aD [(37,FZ),(108,Lp)]
def zn (n:Nat):List (Int)->Option (Zt5 × Unit):=aH n JI JG [[.sl [.i .u8]]] Ty3 [] [2,3,4] .no
def zo:=zn BIG
def JJ:TSp:=⟨JH,[[.sl [.i .u8]]],Ty3,[],Ou.j .no,zo⟩
theorem aci:zK JI 29 JH JG 12 .no [2,3,4]:=by show _=_;kernel_rfl
theorem ZZ:JJ.Ok PG 29:=aO (ae KF (ae Ug (ay PG))) aci (by kernel_rfl)
theorem acj (n) (a0):zn n a0 = (vW a0).bind fun r0=> (CJ (r0.1,a0,(0:Int))).bind fun r1=> some (r1.1,()):=by kernel_rfl
def axW:TC:=
 (zS [bz 6] (zQ (.join [⟨6,[.b],false⟩] 32704 none (zR [df 7 0 1,zAC 9 7 8,BS 10 9 0 3,iE 12 2 3,zAD,nA 10 13 14 6])) .ret))
def axX:aL:=⟨[.rd false [.d],.rd false [.d],.rd false [.d]],(.one false [.d])⟩
def axY:aK:=aD []
def ap4 (n:Nat):Int × Int × Int->Option ((Bool) × Unit):=aH n axY axW [[.i .i64],[.i .i64],[.i .i64]] [.b] [] [6] .no
def fq:=ap4 BIG
def kX:TSp:=⟨axX,[[.i .i64],[.i .i64],[.i .i64]],[.b],[],Ou.j .no,fq⟩
theorem aDf:zK axY 48 axX axW 15 .no [6]:=by show _=_;kernel_rfl
theorem jQ:kX.Ok PG 48:=aO (ay PG) aDf (by kernel_rfl)
theorem aDg (n) (a0) (a1) (a2):ap4 n (a0,a1,a2) = (bif decide (a1<=a0) then some (decide (a0<=a2)) else some false).bind fun x0=> some (x0,()):=by kernel_rfl
def aij:TC:=
 (zS [yu 2] (zS [yu 3] (zQ (.join [⟨3,[.sl [.i .i64]],false⟩] 16376 none (zS [au 5 0,bK 6] (.block 0 (.loop [⟨3,[.sl [.i .i64]],false⟩,⟨6,[.i .i64],false⟩] 16344 (zS [gy 7 6 5] (zQ (zC 7 .skip (.exit 0)) (zQ (.block 1 (zS [au 8 6,au 4 8] (zR [dC 3 9 3,au 10 4,Jo 11 10,MM 9 11 12 9 3]))) (zR [BK 13 6,au 6 13])))))))) (zS [tO 3 14 3 2] .ret))))
def aik:aL:=⟨[.rd false [.d]],(.one false fF)⟩
def ail:aK:=aD []
def WE (n:Nat):Int->Option ((List Int) × Unit):=aH n ail aij [[.i .i64]] [.sl [.i .i64]] [] [2] .no
def zq:=WE BIG
def Em:TSp:=⟨aik,[[.i .i64]],[.sl [.i .i64]],[],Ou.j .no,zq⟩
theorem av2:zK ail 177 aik aij 15 .no [2]:=by show _=_;kernel_rfl
theorem Gq:Em.Ok PG 177:=aO (ay PG) av2 (by kernel_rfl)
theorem av3 (n) (a0):WE n a0 = (aJ n (X:=(List Int) × Int) (B:=(List Int)) (fun self1 x0=> bif decide (x0.2<a0) then bif decide (x0.1.length+[x0.2].length<=4294967296) then self1 (x0.1++[x0.2],IntKind.wrap .i64 (x0.2+1)) else none else some x0.1) ([],(0:Int))).bind fun x2=> some (x2,()):=by kernel_rfl
def Z0:TC:=
 (zS [p_ 4 1000000005,bz 5] (zQ (.seq (.join [⟨15,[.b],false⟩] 65280 none (zR [au 8 0,oZ 9 48 8 12,Jw 10 9 1 3,zBm 48 12 3 13 13 3,tN 14 13 3 11])) (zC 15 (zS [zBp 16,FY 4 16 4 16] .ret) .skip)) (zS [au 17 0,[o1 18 (.build bC [(0,.t 17)])],p_ 6 1000000007,iZ 6 18 6 18] (zQ (.join [⟨6,bC,false⟩] 8589410496 none (zS [au 19 0,bK 20] (.block 0 (.loop [⟨6,bC,false⟩,⟨20,[.i .i64],false⟩] 8588886208 (zS [gy 21 20 19] (zQ (zC 21 .skip (.exit 0)) (zQ (.block 1 (zS [MQ 22 20 7] (zR [df 25 7 1,uq 23 6 1,zAA 27 25 26,zAe 28 1 27,Jo 29 28,Yv 24 24 29 30 24 24 6 30 6 6 1]))) (zR [mM 32 20])))))))) (zQ (.join [⟨6,bC,false⟩] 562941363486784 none (zS [au 33 1,bK 34] (.block 2 (.loop [⟨6,bC,false⟩,⟨34,[.i .i64],false⟩] 562932773552192 (zS [gy 35 34 33] (zQ (zC 35 .skip (.exit 2)) (zQ (.block 3 (zS [au 38 0,uq 36 6 3,gz 39 177 38,zBx 39 40 39,zBy 37 37 40 41 37 40 37 6 41,zMc 42 6 41 37 6 3 41] (zR [uq 43 6 4,[o5 (.sli [.i .i64] [kO 0]) 45 1000000001],Yv 44 44 45 46 44 44 6 46 6 6 4]))) (zR [mM 48 34])))))))) (zS [w9 49 6 15 4 4 6,gX 5] .ret))))))
def Z4:aL:=⟨[.rd false [.d],.rd false [.d]],(.tup [(true,15),(false,1)] Ct0)⟩
def Z5:aK:=aD [(48,kX),(177,Em)]
def Lr (n:Nat):Int × Int->Option (Zt1 × Unit):=aH n Z5 Z0 [[.i .i64],[.i .i64]] Ty1 [] [4,5] .no
def CK:=Lr BIG
def Z6:TSp:=⟨Z4,[[.i .i64],[.i .i64]],Ty1,[],Ou.j .no,CK⟩
theorem ap5:zK Z5 109 Z4 Z0 50 .no [4,5]:=by show _=_;kernel_rfl
theorem alb:Z6.Ok PG 109:=aO (ae jQ (ae Gq (ay PG))) ap5 (by kernel_rfl)
theorem ap6 (n) (a0) (a1):Lr n (a0,a1) = ((fq (a0,(1:Int),(12:Int))).bind fun r0=> bif !r0.1 then some true else (fq (a1,(1:Int),(3:Int))).bind fun r1=> some !r1.1).bind fun x2=> bif x2 then some (((0:Int),[],[],[],[],(0:Int),(0:Int),(0:Int),(0:Int),(0:Int),(0:Int),(0:Int),[],(0:Int),[],false),()) else (aJ n (X:=eH × Int) (B:=eH) (fun self4 x3=> bif decide (x3.2<a0) then bif decide (a1=0) then none else bif decide (x3.1.2.1.length+([IntKind.wrap .i64 ((1:Int)+(Int.tmod x3.2 a1))]).length<=4294967296) then self4 ((x3.1.1,x3.1.2.1++([IntKind.wrap .i64 ((1:Int)+(Int.tmod x3.2 a1))]),x3.1.2.2),IntKind.wrap .i64 (x3.2+1)) else none else some x3.1) ((a0,[],[],[],[],(0:Int),(0:Int),(0:Int),(0:Int),(0:Int),(0:Int),(0:Int),[],(0:Int),[]),(0:Int))).bind fun x5=> (aJ n (X:=eH × Int) (B:=eH) (fun self7 x6=> bif decide (x6.2<a1) then (zq a0).bind fun r8=> bif decide (x6.1.2.2.2.1.length+[r8.1].length<=4294967296) then bif decide (x6.1.2.2.2.2.1.length+([(0:Int)]).length<=4294967296) then self7 ((x6.1.1,x6.1.2.1,x6.1.2.2.1,x6.1.2.2.2.1++[r8.1],x6.1.2.2.2.2.1++([(0:Int)]),x6.1.2.2.2.2.2),IntKind.wrap .i64 (x6.2+1)) else none else none else some x6.1) (x5,(0:Int))).bind fun x9=> some ((x9.1,x9.2.1,x9.2.2.1,x9.2.2.2.1,x9.2.2.2.2.1,x9.2.2.2.2.2.1,x9.2.2.2.2.2.2.1,x9.2.2.2.2.2.2.2.1,x9.2.2.2.2.2.2.2.2.1,x9.2.2.2.2.2.2.2.2.2.1,x9.2.2.2.2.2.2.2.2.2.2.1,x9.2.2.2.2.2.2.2.2.2.2.2.1,x9.2.2.2.2.2.2.2.2.2.2.2.2.1,x9.2.2.2.2.2.2.2.2.2.2.2.2.2.1,x9.2.2.2.2.2.2.2.2.2.2.2.2.2.2,true),()):=by kernel_rfl
def Uh:TC:=
 (zS [yu 2] (zS [au 3 0,zIC 4 3,dC 4 2 4] .ret))
def Ui:aL:=⟨[.rd false fF],(.one false fF)⟩
def Uj:aK:=aD []
def Ae (n:Nat):List (Int)->Option ((List Int) × Unit):=aH n Uj Uh [[.sl [.i .i64]]] [.sl [.i .i64]] [] [2] .no
def mf:=Ae BIG
def Af:TSp:=⟨Ui,[[.sl [.i .i64]]],[.sl [.i .i64]],[],Ou.j .no,mf⟩
theorem alc:zK Uj 72 Ui Uh 5 .no [2]:=by show _=_;kernel_rfl
theorem En:Af.Ok PG 72:=aO (ay PG) alc (by kernel_rfl)
theorem Uk (n) (a0):Ae n a0 = bif decide (a0.length<=4294967296) then some (a0,()) else none:=by kernel_rfl
def Pn:TC:=
 (zS [AR 2] (zS [au 3 0,zIC 4 3,dC 4 2 4] .ret))
def Po:aL:=⟨[.rd false iG],(.one false iG)⟩
def Pp:aK:=aD []
def Eo (n:Nat):(List aP)->Option ((List aP) × Unit):=aH n Pp Pn [[.sl [.i .i64,.i .i64]]] [.sl [.i .i64,.i .i64]] [] [2] .no
def r_:=Eo BIG
def xG:TSp:=⟨Po,[[.sl [.i .i64,.i .i64]]],[.sl [.i .i64,.i .i64]],[],Ou.j .no,r_⟩
theorem aim:zK Pp 132 Po Pn 5 .no [2]:=by show _=_;kernel_rfl
theorem BA:xG.Ok PG 132:=aO (ay PG) aim (by kernel_rfl)
theorem ain (n) (a0):Eo n a0 = bif decide (a0.length<=4294967296) then some (a0,()) else none:=by kernel_rfl
def Ul:TC:=
 (zS [dK 1 0,zEw 2 1000000003] (zS [jq 3,Jn 4 3,Ob 5 1 7 4,gz 6 132 5,jq 7,Jn 8 7,FO 6 7 8 6] (zS [jf 9 1 9,FN 9 2 9 2 9 9 1] .ret)))
def Um:aL:=⟨[.rd true Ct6],(.one true Ct6)⟩
def Un:aK:=aD [(132,xG)]
def Im (n:Nat):apf->Option (apf × Unit):=aH n Un Ul [DD] DD [] [2] .no
def Io:=Im BIG
def Uo:TSp:=⟨Um,[DD],DD,[],Ou.j .no,Io⟩
theorem ald:zK Un 133 Um Ul 10 .no [2]:=by show _=_;kernel_rfl
theorem aio:Uo.Ok PG 133:=aO (ae BA (ay PG)) ald (by kernel_rfl)
theorem ale (n) (a0):Im n a0 = (r_ a0.2.2.2.2.2.2.2.1).bind fun r0=> some ((a0.1,a0.2.1,a0.2.2.1,a0.2.2.2.1,a0.2.2.2.2.1,a0.2.2.2.2.2.1,a0.2.2.2.2.2.2.1,r0.1,a0.2.2.2.2.2.2.2.2),()):=by kernel_rfl
def Uq:TC:=
 (zS [dK 1 0,p_ 2 1000000003] (zS [zGv 1000000004 6 6,zGw 1000000004 1 0 6 7 7,zGv 1000000004 8 8,zGw 1000000004 1 1 8 9 9,zHu 1000000004 72 9 10 10,ML 1000000004 11 11 1 2,zHu 1000000004 132 12 13 13,ML 1000000004 14 14 1 4,zHu 1000000004 72 15 16 16,zGv 1000000004 17 17,[⟨false,[],[1000000004],.det 1 (.load 1 [] 5 (.t 17) 9 false),[18],(some 18),none⟩],zHu 1000000004 133 18 19 19,ML 1000000004 20 20 1 14,[⟨false,[],[1000000004],.det 1 (.app none 21),[22],(some 22),none⟩,⟨false,[],[1000000004],.det 6 (.build bC [(0,.t 7),(1,.t 10),(2,.t 13),(4,.t 16),(5,.t 19),(14,.t 22)]),[23,10,13,16,19,22],(some 23),none⟩],p_ 3 1000000004,iZ 3 23 3 23] (zQ (.join [⟨3,bC,false⟩] 549739036712 none (zS [bO 24 1 3,rX 26 25] (.block 0 (.loop [⟨3,bC,false⟩,⟨27,[.i .i64],false⟩] 549621596200 (zS [gy 28 27 26] (zQ (zC 28 .skip (.exit 0)) (zQ (.block 1 (zS [nz 29 25 27 1,au 5 30] (zR [au 33 5,uq 31 3 3,gz 34 72 33,zBx 34 35 34,zBy 32 32 35 36 32 35 32 3 36,zMc 37 3 36 32 3 3 36]))) (zR [mM 38 27])))))))) (zS [w9 39 3 15 2 2 3] .ret))))
def Ur:aL:=⟨[.rd true oV],(.one true oV)⟩
def Us:aK:=aD [(72,Af),(132,xG),(133,Uo)]
def Ip (n:Nat):eH->Option (eH × Unit):=aH n Us Uq [bC] bC [] [2] .no
def Ag:=Ip BIG
def Iq:TSp:=⟨Ur,[bC],bC,[],Ou.j .no,Ag⟩
theorem alf:zK Us 47 Ur Uq 40 .no [2]:=by show _=_;kernel_rfl
theorem Pq:Iq.Ok PG 47:=aO (ae En (ae BA (ae aio (ay PG)))) alf (by kernel_rfl)
theorem alg (n) (a0):Ip n a0 = (mf a0.2.1).bind fun r0=> (r_ a0.2.2.1).bind fun r1=> (mf a0.2.2.2.2.1).bind fun r2=> (Io (a0.2.2.2.2.2.1,a0.2.2.2.2.2.2.1,a0.2.2.2.2.2.2.2.1,a0.2.2.2.2.2.2.2.2.1,a0.2.2.2.2.2.2.2.2.2.1,a0.2.2.2.2.2.2.2.2.2.2.1,a0.2.2.2.2.2.2.2.2.2.2.2.1,a0.2.2.2.2.2.2.2.2.2.2.2.2.1,a0.2.2.2.2.2.2.2.2.2.2.2.2.2.1)).bind fun r3=> bif decide (a0.2.2.2.2.2.2.2.2.2.2.2.2.2.2.length<=4294967296) then (aJ n (X:=eH × Int) (B:=eH) (fun self5 x4=> bif decide (x4.2<(a0.2.2.2.1.length:Int)) then bnd a0.2.2.2.1.length x4.2 fun n6=> a0.2.2.2.1[n6]?.bind fun y7=> (mf y7).bind fun r8=> bif decide (x4.1.2.2.2.1.length+[r8.1].length<=4294967296) then self5 ((x4.1.1,x4.1.2.1,x4.1.2.2.1,x4.1.2.2.2.1++[r8.1],x4.1.2.2.2.2),IntKind.wrap .i64 (x4.2+1)) else none else some x4.1) ((a0.1,r0.1,r1.1,[],r2.1,r3.1.1,r3.1.2.1,r3.1.2.2.1,r3.1.2.2.2.1,r3.1.2.2.2.2.1,r3.1.2.2.2.2.2.1,r3.1.2.2.2.2.2.2.1,r3.1.2.2.2.2.2.2.2.1,r3.1.2.2.2.2.2.2.2.2,a0.2.2.2.2.2.2.2.2.2.2.2.2.2.2),(0:Int))).bind fun x9=> some (x9,()) else none:=by kernel_rfl
def Ut:TC:=
 (zS [bz 4] (zQ (zS [w_ 7 1 7,au 9 0,wY 10 8 9] (zC 10 (zS [bz 4] .ret) .skip)) (zQ (.join [] 2147481712 (some [⟨4,[.b],false⟩]) (zS [MN 11 1] (.block 0 (.loop [⟨13,[.i .i64],false⟩] 2147475568 (zS [gy 14 13 12] (zQ (zC 14 .skip (.exit 0)) (zQ (.join [] 1073709168 (some [⟨4,[.b],false⟩]) (.block 1 (zS [au 15 13,nz 16 11 13 1,au 5 15,au 6 17] (zQ (.join [⟨29,[.b],false⟩] 1073479680 none (zR [df 18 6 5,Yq 20 48 18 19,Jw 21 20 1 4,Yw 24 6 4 23 4,Yr 26 23 1 25 4,jH 27 6 4,Jt 28 26 27 4 22])) (zC 29 (zS [bz 4] .ret) .skip))))) (zR [mM 30 13])))))))) (zS [gX 4] .ret))))
def Uu:aL:=⟨[.rd false [.d],.rd false fF],(.one false [.d])⟩
def Uv:aK:=aD [(48,kX)]
def Ir (n:Nat):Int × List (Int)->Option ((Bool) × Unit):=aH n Uv Ut [[.i .i64],[.sl [.i .i64]]] [.b] [] [4] .no
def Ah:=Ir BIG
def Iu:TSp:=⟨Uu,[[.i .i64],[.sl [.i .i64]]],[.b],[],Ou.j .no,Ah⟩
theorem alh:zK Uv 59 Uu Ut 31 .no [4]:=by show _=_;kernel_rfl
theorem Ps:Iu.Ok PG 59:=aO (ae jQ (ay PG)) alh (by kernel_rfl)
theorem ali (n) (a0) (a1):Ir n (a0,a1) =
 bif !decide ((a1.length:Int)=a0) then
  some (false,())
 else (aJ n (X:=Int) (B:=(Unit) ⊕ (Bool)) (fun self1 x0=>
  bif decide (x0<(a1.length:Int)) then
   (bnd a1.length x0 fun n2=>
    a1[n2]?.bind fun y3=>
    ((fq (y3,(0:Int),x0)).bind fun r4=>
     bif !r4.1 then
      some true
     else bnd a1.length y3 fun n5=>
     a1[n5]?.bind fun y6=>
     some (!decide (y6=y3))).bind fun x7=>
    bif x7 then
     some (Sum.inr false)
    else some (Sum.inl ())).bind fun y=>match y with
   | .inl x8=>
    self1 (IntKind.wrap .i64 (x0+1))
   | .inr x8=>
    some (Sum.inr x8)
  else some (Sum.inl ())) (0:Int)).bind fun y=>match y with
 | .inl x9=>
  some (true,())
 | .inr x9=>
  some (x9,()):=by kernel_rfl
def aes:TC:=
 (zS [kP 3 1] (zQ (.join [⟨4,[.b],false⟩] 268435440 none (zR [au 5 0,oZ 6 48 5 12,au 7 6,qV 8 2,BL 9 3 0 8 2,iE 10 0 2,zMr 11 10 2 48 9 2,lC 7 12 13,vV 15 9 3 1 9,iE 17 0 9,zMr 18 17 9 48 16 9,lC 14 19 20,Oi 22 16 3 0 3 1,zDx 26 23 25 16,nA 21 26 27 4])) .ret))
def aet:aL:=⟨[.rd false [.d],.rd true [.d,.d]],(.one false [.d])⟩
def aeu:aK:=aD [(48,kX)]
def Pv (n:Nat):Int × aP->Option ((Bool) × Unit):=aH n aeu aes [[.i .i64],[.i .i64,.i .i64]] [.b] [] [4] .no
def Bc:=Pv BIG
def Gr:TSp:=⟨aet,[[.i .i64],[.i .i64,.i .i64]],[.b],[],Ou.j .no,Bc⟩
theorem atp:zK aeu 189 aet aes 28 .no [4]:=by show _=_;kernel_rfl
theorem Ls:Gr.Ok PG 189:=aO (ae jQ (ay PG)) atp (by kernel_rfl)
theorem atq (n) (a0) (a1):Pv n (a0,a1) = ((fq (a0,(1:Int),(12:Int))).bind fun r0=> bif r0.1 then (fq (a1.1,(0:Int),IntKind.wrap .i64 (a0-1))).bind fun r1=> bif r1.1 then (fq (a1.2,(0:Int),IntKind.wrap .i64 (a0-1))).bind fun r2=> bif r2.1 then some (decide (a1.1<a1.2)) else some false else some false else some false).bind fun x3=> some (x3,()):=by kernel_rfl
def aip:TC:=
 (zS [dK 2 0,kP 3 1] (zQ (.join [⟨4,[.b],false⟩] 16777200 none (zR [iP 5 2 0 5,iP 7 3 0 7,gy 9 6 8,MO 10 9 5 2 0 5,yB 13 5 3 0 5,zDA 15 12 14 5,jH 16 15 5,Oi 17 11 2 1 3 1,zDx 21 18 20 11,FP 16 21 22 22 5 10,au 4 23])) .ret))
def aiq:aL:=⟨[.rd true [.d,.d],.rd true [.d,.d]],(.one false [.d])⟩
def air:aK:=aD []
def WF (n:Nat):aP × aP->Option ((Bool) × Unit):=aH n air aip [[.i .i64,.i .i64],[.i .i64,.i .i64]] [.b] [] [4] .no
def zt:=WF BIG
def Lt:TSp:=⟨aiq,[[.i .i64,.i .i64],[.i .i64,.i .i64]],[.b],[],Ou.j .no,zt⟩
theorem av4:zK air 192 aiq aip 24 .no [4]:=by show _=_;kernel_rfl
theorem Pw:Lt.Ok PG 192:=aO (ay PG) av4 (by kernel_rfl)
theorem av5 (n) (a0) (a1):WF n (a0,a1) = (bif decide (a0.1<a1.1) then some true else bif decide (a0.1=a1.1) then some (decide (a0.2<a1.2)) else some false).bind fun x0=> some (x0,()):=by kernel_rfl
def Z7:TC:=
 (zS [bz 4] (zQ (.join [] 8589934576 (some [⟨4,[.b],false⟩]) (zS [au 7 1,rX 8 7] (.block 0 (.loop [⟨9,[.i .i64],false⟩] 8589934192 (zS [gy 10 9 8] (zQ (zC 10 .skip (.exit 0)) (zQ (.join [] 4294965360 (some [⟨4,[.b],false⟩]) (.block 1 (zS [au 11 9,Og 12 7 9 7 2 2,qX 6 1000000007,au 5 11,dR 6 6 13] (zQ (.join [⟨31,[.b],false⟩] 4294950912 none (zR [au 14 0,yC 15 6 2 189 14,Jw 17 16 5 4,zDD 20 19 0 4,jH 21 20 4,iE 22 1 7,iE 23 5 7,zDv 24 23 7,qW 25 22 24 7,zEa 26 22 2 25 2 7,zEA 27 6 2 7,qa 192 26 27 28 28 7,zEc 29 28 7,FP 21 29 30 30 4 18])) (zC 31 (zS [bz 4] .ret) .skip))))) (zR [BK 32 9,au 9 32])))))))) (zS [au 33 1,l9 34 33,zAy 35 34 66,au 4 35] .ret)))
def Z8:aL:=⟨[.rd false [.d],.rd false iG],(.one false [.d])⟩
def Z9:aK:=aD [(189,Gr),(192,Lt)]
def Lu (n:Nat):Int × (List aP)->Option ((Bool) × Unit):=aH n Z9 Z7 [[.i .i64],[.sl [.i .i64,.i .i64]]] [.b] [] [4] .no
def tC:=Lu BIG
def xH:TSp:=⟨Z8,[[.i .i64],[.sl [.i .i64,.i .i64]]],[.b],[],Ou.j .no,tC⟩
theorem ap7:zK Z9 144 Z8 Z7 36 .no [4]:=by show _=_;kernel_rfl
theorem Ai:xH.Ok PG 144:=aO (ae Ls (ae Pw (ay PG))) ap7 (by kernel_rfl)
theorem ap8 (n) (a0) (a1):Lu n (a0,a1) =
 (aJ n (X:=Int) (B:=(Unit) ⊕ (Bool)) (fun self1 x0=>
  bif decide (x0<(a1.length:Int)) then
   (bnd a1.length x0 fun n2=>
    a1[n2]?.bind fun y3=>
    ((Bc (a0,y3)).bind fun r4=>
     bif !r4.1 then
      some true
     else bif decide (0<x0) then
      bnd a1.length (IntKind.wrap .i64 (x0-1)) fun n5=>
      a1[n5]?.bind fun y6=>
      (zt (y6,y3)).bind fun r7=>
      some !r7.1
     else some false).bind fun x8=>
    bif x8 then
     some (Sum.inr false)
    else some (Sum.inl ())).bind fun y=>match y with
   | .inl x9=>
    self1 (IntKind.wrap .i64 (x0+1))
   | .inr x9=>
    some (Sum.inr x9)
  else some (Sum.inl ())) (0:Int)).bind fun y=>match y with
 | .inl x10=>
  some (decide ((a1.length:Int)<=66),())
 | .inr x10=>
  some (x10,()):=by kernel_rfl
end
end Go.Fw
