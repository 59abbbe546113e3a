/- The given functions, as what they compute; each is shown to be what the code does. No conditions. -/
import Derived.Test.YtjicinmnfkinhaaGreatX0
set_option linter.unusedSectionVars false
namespace Go.Fw
noncomputable section
def Uj:TC:=
 (zS [nO 1 0] (zQ (.seq (.join [⟨17,[.b],false⟩] 261888 none (zR [lm 8 1 0 8,ug 10 32 9 12,Cw 11 10,pE 13 4 1 1 4,Ji 15 14 4,Jh 16 15 12 4,xD 12 16 17])) (zC 17 (zS [bH 2] .ret) .skip)) (zS [bN 3] (zQ (.join [⟨3,[.i .i64],false⟩] 2475880078570760549797986556 (some [⟨2,[.b],false⟩]) (zS [bN 4] (.block 0 (.loop [⟨3,[.i .i64],false⟩,⟨4,[.i .i64],false⟩] 2475880078570760549797986556 (zQ (zS [O7 18 4 1 1 21] (zC 22 .skip (.exit 0))) (zQ (.join [⟨3,[.i .i64],false⟩] 2475880078570760549764694252 (some [⟨2,[.b],false⟩]) (.block 1 (zQ (zS [xK 25 1 1 4,ui 28 26 27 1,jH 30 135 29,jr 31 30] (zC 31 (zS [bH 2] .ret) .skip)) (zS [xK 32 1 1 4,ui 35 33 34 1,X7 37 120 36 5] (zS [ai 38 3,ku 39 5,mJ 40 39,wE 41 38 40,ai 3 41] (zQ (.seq (.join [⟨69,[.b],false⟩] 1180591616319364792320 none (zR [ku 42 5,ku 43 5,mJ 44 43,F8 45 44,wD 46 42 45,Em 47 5 1 46,bV 48 1 0,zAE 50 47 49,ai 51 50,iL 52 4 9,Jh 53 52 0 9,iL 54 53 9,wF 55 12 1 1,ik 57 4 12,Jg 58 57 12,Cv 59 56 58 12,O1 60 56 1 59 12,zGC 120 60 61 61 12,[o2 62 (.index 61 (kD 0)) 12 true],O1 63 61 1 62 12,zGz 5 64 64 12,[o2 65 (.index 64 (kD 0)) 12 true],O1 66 5 1 65 12,zGs 67 63 66 12,En 54 67 68 68 9 51])) (zC 69 (zS [bH 2] .ret) .skip)) (zS [bN 6] (.block 2 (.loop [⟨6,[.i .i64],false⟩] 2475878897979139832386945220 (zQ (zS [MZ 70 6 4] (zC 72 .skip (.exit 2))) (zQ (.join [] 2475842299638897592636539012 (some [⟨2,[.b],false⟩]) (.block 3 (zS [bN 7] (.block 4 (.loop [⟨7,[.i .i64],false⟩] 2475842299638897592636539012 (zQ (zS [ai 75 7,ku 76 5,qZ 77 76 75] (zC 78 .skip (.exit 4))) (zQ (.block 5 (zS [ai 83 6,M5 86 5 7,bV 81 1 1,ui 84 82 83 1,wD 88 86 87,Em 89 5 1 88,lQ 90 129 85 89] (zC 90 (zS [bH 2] .ret) .skip))) (zR [gJ 79 7 7])))))))) (zR [gJ 73 6 6])))))))))))) (zR [gJ 23 4 4]))))))) (zS [Ga 91 3 1 0,Bp 94 91 93,ai 2 94] .ret)))))
def Uk:aO:=⟨[.rd true [.d,.sl (.own none) jP]],(.one false [.d])⟩
def Ul:aN:=aG [(32,d9),(135,ael),(120,yg),(129,vQ)]
def Ih (n:Nat):H6->Option ((Bool) × Unit):=aI n Ul Uj [uw] [.b] [] [2] .no
def Ii:=Ih BIG
def Um:TSp:=⟨Uk,[uw],[.b],[],Ou.j .no,Ii⟩
theorem alc:zK Ul 131 Uk Uj 95 .no [2]:=by show _=_;kernel_rfl
theorem ait:Um.Ok PG 131:=aV (ae dQ (ae apY (ae AA (ae wJ (ax PG))))) alc (by kernel_rfl)
theorem ald (n) (a0):Ih n a0 =
 ((bD (a0.1,(1:Int),(12:Int))).bind fun r0=>
  bif !r0.1 then
   some true
  else some (decide (12<(a0.2.length:Int)))).bind fun x1=>
 bif x1 then
  some (false,())
 else (aU n (X:=Int × Int) (B:=(Int) ⊕ (Bool)) (fun self3 x2=>
  bif decide (x2.2<(a0.2.length:Int)) then
   (bnd a0.2.length x2.2 fun n4=>
    a0.2[n4]?.bind fun y5=>
    (PS y5).bind fun r6=>
    bif !r6.1 then
     some (Sum.inr false)
    else bnd a0.2.length x2.2 fun n7=>
    a0.2[n7]?.bind fun y8=>
    (kP y8).bind fun r9=>
    (bnd r9.1.length (IntKind.wrap .i64 ((r9.1.length:Int)-1)) fun n10=>
     r9.1[n10]?.bind fun y11=>
     bif decide (a0.1<=y11) then
      some true
     else bif decide (0<x2.2) then
      bnd a0.2.length (IntKind.wrap .i64 (x2.2-1)) fun n12=>
      a0.2[n12]?.bind fun y13=>
      (kP y13).bind fun r14=>
      bnd r14.1.length (0:Int) fun n15=>
      r14.1[n15]?.bind fun y16=>
      bnd r9.1.length (0:Int) fun n17=>
      r9.1[n17]?.bind fun y18=>
      some (decide (y18<=y16))
     else some false).bind fun x19=>
    bif x19 then
     some (Sum.inr false)
    else aU n (X:=Int) (B:=(Int) ⊕ (Bool)) (fun self21 x20=>
     bif decide (x20<x2.2) then
      (aU n (X:=Int) (B:=(Unit) ⊕ (Bool)) (fun self23 x22=>
       bif decide (x22<(r9.1.length:Int)) then
        bnd a0.2.length x20 fun n24=>
        a0.2[n24]?.bind fun y25=>
        bnd r9.1.length x22 fun n26=>
        r9.1[n26]?.bind fun y27=>
        (jX (y25,y27)).bind fun r28=>
        bif r28.1 then
         some (Sum.inr false)
        else self23 (IntKind.wrap .i64 (x22+1))
       else some (Sum.inl ())) (0:Int)).bind fun y=>match y with
      | .inl x29=>
       self21 (IntKind.wrap .i64 (x20+1))
      | .inr x29=>
       some (Sum.inr x29)
     else some (Sum.inl (IntKind.wrap .i64 (x2.1+(r9.1.length:Int))))) (0:Int):Option ((Int) ⊕ (Bool))).bind fun y=>match y with
   | .inl x30=>
    self3 (x30,IntKind.wrap .i64 (x2.2+1))
   | .inr x30=>
    some (Sum.inr x30)
  else some (Sum.inl x2.1)) ((0:Int),(0:Int))).bind fun y=>match y with
 | .inl x31=>
  some (decide (x31=a0.1),())
 | .inr x31=>
  some (x31,()):=by kernel_rfl
def aem:TC:=
 (zS [ek 2 0,bN 4] (zQ (zS [eF 6 2 2,jH 7 131 6,jr 8 7] (zC 8 (zS [zEf 4] .ret) .skip)) (zQ (.join [] 16776752 (some [⟨4,[.i .i64],false⟩]) (zS [bN 5] (.block 0 (.loop [⟨5,[.i .i64],false⟩] 16776752 (zQ (zS [Ga 9 5 2 1,qZ 12 11 9] (zC 13 .skip (.exit 0))) (zQ (.block 1 (zS [xK 16 2 1 5,ui 19 17 18 1,ai 21 1,lQ 22 129 20 21] (zC 22 (zS [yZ 23 5 4] .ret) .skip))) (zR [gJ 14 5 5]))))))) (zS [zEf 4] .ret))))
def aen:aO:=⟨[.rd true [.d,.sl (.own none) jP],.rd false [.d]],(.one false [.d])⟩
def aeo:aN:=aG [(131,Um),(129,vQ)]
def PT (n:Nat):H6 × Int->Option ((Int) × Unit):=aI n aeo aem [uw,[.i .i64]] [.i .i64] [] [4] .no
def nP:=PT BIG
def BD:TSp:=⟨aen,[uw,[.i .i64]],[.i .i64],[],Ou.j .no,nP⟩
theorem atG:zK aeo 116 aen aem 24 .no [4]:=by show _=_;kernel_rfl
theorem Dr:BD.Ok PG 116:=aV (ae ait (ae wJ (ax PG))) atG (by kernel_rfl)
theorem atH (n) (a0) (a1):PT n (a0,a1) = (Ii a0).bind fun r0=> bif !r0.1 then some ((-1:Int),()) else (aU n (X:=Int) (B:=(Unit) ⊕ (Int)) (fun self2 x1=> bif decide (x1<(a0.2.length:Int)) then bnd a0.2.length x1 fun n3=> a0.2[n3]?.bind fun y4=> (jX (y4,a1)).bind fun r5=> bif r5.1 then some (Sum.inr x1) else self2 (IntKind.wrap .i64 (x1+1)) else some (Sum.inl ())) (0:Int)).bind fun y=>match y with | .inl x6=> some ((-1:Int),()) | .inr x6=> some (x6,()):=by kernel_rfl
def aiu:TC:=
 (zS [nO 1 0] (zQ (zS [M3 12 1 2 87,jH 14 127 13,jr 15 14] (zC 15 (zS [bH 2] .ret) .skip)) (zQ (.join [] 2147418124 (some [⟨2,[.b],false⟩]) (zS [bN 3] (.block 0 (.loop [⟨3,[.i .i64],false⟩] 2147418124 (zQ (zS [O7 16 3 1 1 19] (zC 20 .skip (.exit 0))) (zQ (.block 1 (zS [xK 23 1 1 3,O5 26 24 25 4 2,zGB 29 32 28 0 4,jr 30 29] (zC 30 (zS [bH 2] .ret) .skip))) (zR [gJ 21 3 3]))))))) (zS [bV 31 1 0,ai 4 32] (zQ (.join [] 1267650600228229401488113274868 (some [⟨2,[.b],false⟩]) (zS [bN 5] (.block 2 (.loop [⟨4,[.i .i64],false⟩,⟨5,[.i .i64],false⟩] 1267650600228229401488113274868 (zQ (zS [ai 33 5,zAA 34 33 4] (zC 34 .skip (.exit 2))) (zQ (.join [⟨4,[.i .i64],false⟩] 1267650600228229401359264255956 (some [⟨2,[.b],false⟩]) (.block 3 (zS [eF 38 1 2,ai 39 5,zLi 40 115 38 39 37 2,mY 42 37 2,zGt 6 1000000007,xH 6 41 6 41] (zQ (zS [ai 43 7,jr 44 43] (zC 44 (zS [bH 2] .ret) .skip)) (zQ (.join [] 73786941110466118404 (some [⟨2,[.b],false⟩]) (zS [bN 8] (.block 4 (.loop [⟨8,[.i .i64],false⟩] 73786941110466118404 (zQ (zS [ai 45 8,xG 46 6 1,qZ 48 47 45] (zC 49 .skip (.exit 4))) (zQ (.join [] 73782472695210836484 (some [⟨2,[.b],false⟩]) (.block 5 (zS [xG 52 6 1,ai 54 8,Ya 55 53 54 6 1 1,jH 57 120 56,mJ 58 57,ai 9 58] (zQ (.join [⟨65,[.b],false⟩] 73210515542534782976 none (zR [ai 59 9,El 60 59 1,M6 61 60 9 2,ik 63 4 2,zGD 64 62 63 2,Bl 61 64 65])) (zC 65 (zS [bH 2] .ret) .skip))))) (zR [gJ 50 8 8]))))))) (zQ (.join [] 316912649983270374079337597956 (some [⟨2,[.b],false⟩]) (zS [bN 10] (.block 6 (.loop [⟨10,[.i .i64],false⟩] 316912649983270374079337597956 (zQ (zS [O7 66 10 1 1 69] (zC 70 .skip (.exit 6))) (zQ (.join [] 316912640612324384634885376004 (some [⟨2,[.b],false⟩]) (.block 7 (zS [xK 73 1 1 10,uJ 76 74 75 4 4,zGr 11 1000000012,jW 11 11 77] (zQ (.join [⟨97,[.b],false⟩] 316912347825602446716882124800 none (zR [bV 78 11 3,Cw 80 79,F9 82 3 11 2 3,ik 84 5 3,zLu 85 83 84 3 81,zGE 88,mZ 89 9,rZ 90 11 0 89 9,xE 116 88 90 91 91 9,zGE 92,mZ 93 9,rZ 94 11 1 93 9,xE 116 92 94 95 95 9,zEp 96 91 95 9,Bl 87 96 97])) (zC 97 (zS [bH 2] .ret) .skip))))) (zR [O9 71 10]))))))) (zR [ai 98 4,zDc 99 98 2,ai 4 99]))))))) (zR [gJ 35 5 5]))))))) (zS [ic 2] .ret))))))
def aiv:aO:=⟨[.rd true Ct6],(.one false [.d])⟩
def aiw:aN:=aG [(87,x_),(127,K3),(32,d9),(115,uL),(120,yg),(116,BD)]
def V5 (n:Nat):mK->Option ((Bool) × Unit):=aI n aiw aiu [iG] [.b] [] [2] .no
def zV:=V5 BIG
def EB:TSp:=⟨aiv,[iG],[.b],[],Ou.j .no,zV⟩
theorem awz:zK aiw 112 aiv aiu 100 .no [2]:=by show _=_;kernel_rfl
theorem GA:EB.Ok PG 112:=aV (ae Az (ae Ue (ae dQ (ae yf (ae AA (ae Dr (ax PG))))))) awz (by kernel_rfl)
theorem awC (n) (a0):V5 n a0 =
 (l6 a0).bind fun r0=>
 (Dq r0.1).bind fun r1=>
 bif !r1.1 then
  some (false,())
 else (aU n (X:=Int) (B:=(Unit) ⊕ (Bool)) (fun self3 x2=>
  bif decide (x2<(a0.2.length:Int)) then
   bnd a0.2.length x2 fun n4=>
   a0.2[n4]?.bind fun y5=>
   (bD (y5.2.2.1,(0:Int),(4:Int))).bind fun r6=>
   bif !r6.1 then
    some (Sum.inr false)
   else self3 (IntKind.wrap .i64 (x2+1))
  else some (Sum.inl ())) (0:Int)).bind fun y=>match y with
 | .inl x7=>
  (aU n (X:=Int × Int) (B:=(Unit) ⊕ (Bool)) (fun self9 x8=>
   bif decide (x8.2<=4) then
    ((qH (a0,x8.2)).bind fun r10=>
     bif !r10.1.2.2 then
      some (Sum.inr false)
     else (aU n (X:=Int) (B:=(Unit) ⊕ (Bool)) (fun self12 x11=>
      bif decide (x11<(r10.1.2.1.length:Int)) then
       (bnd r10.1.2.1.length x11 fun n13=>
        r10.1.2.1[n13]?.bind fun y14=>
        (kP y14).bind fun r15=>
        (bif decide (1<(r15.1.length:Int)) then
         some (decide (x8.1<(r15.1.length:Int)))
         else some false).bind fun x16=>
        bif x16 then
         some (Sum.inr false)
        else some (Sum.inl ())).bind fun y=>match y with
       | .inl x17=>
        self12 (IntKind.wrap .i64 (x11+1))
       | .inr x17=>
        some (Sum.inr x17)
      else some (Sum.inl ())) (0:Int)).bind fun y=>match y with
     | .inl x18=>
      (aU n (X:=Int) (B:=(Unit) ⊕ (Bool)) (fun self20 x19=>
       bif decide (x19<(a0.2.length:Int)) then
        (bnd a0.2.length x19 fun n21=>
         a0.2[n21]?.bind fun y22=>
         (bif !y22.2.2.2 then
          bif decide (y22.2.2.1=x8.2) then
           (nP ((r10.1.1,r10.1.2.1),y22.1)).bind fun r23=>
           (nP ((r10.1.1,r10.1.2.1),y22.2.1)).bind fun r24=>
           some (!decide (r23.1=r24.1))
          else some false
          else some false).bind fun x25=>
         bif x25 then
          some (Sum.inr false)
         else some (Sum.inl ())).bind fun y=>match y with
        | .inl x26=>
         self20 (IntKind.wrap .i64 (x19+1))
        | .inr x26=>
         some (Sum.inr x26)
       else some (Sum.inl ())) (0:Int)).bind fun y=>match y with
      | .inl x27=>
       bif decide ((2:Int)=0) then
        none
       else some (Sum.inl (IntKind.wrap .i64 (Int.tdiv x8.1 (2:Int))))
      | .inr x27=>
       some (Sum.inr x27)
     | .inr x18=>
      some (Sum.inr x18):Option ((Int) ⊕ (Bool))).bind fun y=>match y with
    | .inl x28=>
     self9 (x28,IntKind.wrap .i64 (x8.2+1))
    | .inr x28=>
     some (Sum.inr x28)
   else some (Sum.inl ())) (a0.1,(0:Int))).bind fun y=>match y with
  | .inl x29=>
   some (true,())
  | .inr x29=>
   some (x29,())
 | .inr x7=>
  some (x7,()):=by kernel_rfl
def Ju:TC:=
 (zS [bH 4] (zQ (zS [Gd 6 0 6,Gd 8 1 8,X0 10 7 9] (zC 10 (zS [bH 4] .ret) .skip)) (zQ (.join [] 67106864 (some [⟨4,[.b],false⟩]) (zS [bN 5] (.block 0 (.loop [⟨5,[.i .i64],false⟩] 67106864 (zQ (zS [Jl 11 5 0] (zC 14 .skip (.exit 0))) (zQ (.block 1 (zS [dC 17 0 5,dC 21 1 5,ui 19 17 18 1,ui 23 21 22 1,X0 25 20 24] (zC 25 (zS [bH 4] .ret) .skip))) (zR [gJ 15 5 5]))))))) (zS [ic 4] .ret))))
def Jv:aO:=⟨[.rd false jP,.rd false jP],(.one false [.d])⟩
def Jw:aN:=aG []
def zW (n:Nat):List Int × List (Int)->Option ((Bool) × Unit):=aI n Jw Ju [[.sl [.i .i64]],[.sl [.i .i64]]] [.b] [] [4] .no
def tK:=zW BIG
def zX:TSp:=⟨Jv,[[.sl [.i .i64]],[.sl [.i .i64]]],[.b],[],Ou.j .no,tK⟩
theorem acw:zK Jw 113 Jv Ju 26 .no [4]:=by show _=_;kernel_rfl
theorem GD:zX.Ok PG 113:=aV (ax PG) acw (by kernel_rfl)
theorem acx (n) (a0) (a1):zW n (a0,a1) = bif !decide ((a0.length:Int)=(a1.length:Int)) then some (false,()) else (aU n (X:=Int) (B:=(Unit) ⊕ (Bool)) (fun self1 x0=> bif decide (x0<(a0.length:Int)) then bnd a0.length x0 fun n2=> a0[n2]?.bind fun y3=> bnd a1.length x0 fun n4=> a1[n4]?.bind fun y5=> bif !decide (y3=y5) then some (Sum.inr false) else self1 (IntKind.wrap .i64 (x0+1)) else some (Sum.inl ())) (0:Int)).bind fun y=>match y with | .inl x6=> some (true,()) | .inr x6=> some (x6,()):=by kernel_rfl
def EC:TC:=
 (zS [ek 2 0,nO 3 1] (zQ (.join [⟨4,[.b],false⟩] 2147483632 none (zR [lm 5 2 0 5,lm 7 3 0 7,Bp 9 6 8,Gc 10 9 5 2 1 5,F9 13 5 3 1 5,[o2 15 (.data (.beq false) [.t 12,.t 14]) 5 true],lT 10 15 16,X9 18 12 2 2 3 2,xE 122 19 21 22 22 12,lT 17 22 23,X9 25 19 2 3 3 3,xE 113 26 28 29 29 19,ql 24 29 30 4])) .ret))
def EE:aO:=⟨[.rd true OV,.rd true OV],(.one false [.d])⟩
def EF:aN:=aG [(122,xV),(113,zX)]
def vR (n:Nat):wG × wG->Option ((Bool) × Unit):=aI n EF EC [lh,lh] [.b] [] [4] .no
def vS:=vR BIG
def EG:TSp:=⟨EE,[lh,lh],[.b],[],Ou.j .no,vS⟩
theorem V6:zK EF 91 EE EC 31 .no [4]:=by show _=_;kernel_rfl
theorem Tg:EG.Ok PG 91:=aV (ae Eu (ae GD (ax PG))) V6 (by kernel_rfl)
theorem V7 (n) (a0) (a1):vR n (a0,a1) = (bif decide (a0.1=a1.1) then bif (a0.2.1 == a1.2.1) then (rq (a0.2.2.1,a1.2.2.1)).bind fun r0=> bif r0.1 then (tK (a0.2.2.2,a1.2.2.2)).bind fun r1=> some r1.1 else some false else some false else some false).bind fun x2=> some (x2,()):=by kernel_rfl
def Un:TC:=
 (zS [nO 1 0] (zS [eF 3 1 4,zHa 4,lQ 5 91 3 4,ai 2 5] .ret))
def Uo:aO:=⟨[.rd true OV],(.one false [.d])⟩
def Uq:aN:=aG [(91,EG)]
def Ij (n:Nat):wG->Option ((Bool) × Unit):=aI n Uq Un [lh] [.b] [] [2] .no
def uM:=Ij BIG
def Ik:TSp:=⟨Uo,[lh],[.b],[],Ou.j .no,uM⟩
theorem ale:zK Uq 43 Uo Un 6 .no [2]:=by show _=_;kernel_rfl
theorem PU:Ik.Ok PG 43:=aV (ae Tg (ax PG)) ale (by kernel_rfl)
theorem alf (n) (a0):Ij n a0 = (vS (a0,((0:Int),false,[],[]))).bind fun r0=> some (r0.1,()):=by kernel_rfl
def Ur:TC:=
 (zS [nO 3 1] (zQ (.join [⟨4,[.b],false⟩] 16777200 none (zR [ai 5 0,ug 6 32 5 12,ai 7 6,mZ 8 2,rZ 9 3 0 8 2,zEv 32 9 1 10 10 2,lT 7 10 11,ik 13 0 7,F9 14 7 3 2 7,xE 104 13 15 16 16 7,lT 12 16 17,ik 19 0 13,wF 20 13 3 3,xE 105 19 21 22 22 13,ql 18 22 23 4])) .ret))
def Us:aO:=⟨[.rd false [.d],.rd true OV],(.one false [.d])⟩
def Ut:aN:=aG [(32,d9),(104,uK),(105,Et)]
def Il (n:Nat):Int × wG->Option ((Bool) × Unit):=aI n Ut Ur [[.i .i64],lh] [.b] [] [4] .no
def uN:=Il BIG
def AB:TSp:=⟨Us,[[.i .i64],lh],[.b],[],Ou.j .no,uN⟩
theorem alg:zK Ut 89 Us Ur 24 .no [4]:=by show _=_;kernel_rfl
theorem EH:AB.Ok PG 89:=aV (ae dQ (ae xQ (ae Nc (ax PG)))) alg (by kernel_rfl)
theorem alh (n) (a0) (a1):Il n (a0,a1) = ((bD (a0,(1:Int),(12:Int))).bind fun r0=> bif r0.1 then (bD (a1.1,(1:Int),(100000:Int))).bind fun r1=> bif r1.1 then (qG (a0,a1.2.2.1)).bind fun r2=> bif r2.1 then (xR (a0,a1.2.2.2)).bind fun r3=> some r3.1 else some false else some false else some false).bind fun x4=> some (x4,()):=by kernel_rfl
def PV:TC:=
 (zS [ek 1 0,zBb 2] (zS [zBc 7,dh 7 3 7] (zQ (zS [eF 8 1 2,jH 9 112 8,jr 10 9] (zC 10 (zS [Cx 3 11 3 2] .ret) .skip)) (zS [eF 13 1 2,[o3 14 115 [.t 13,kO 0]],dh 14 12 14,zDa 12 2 15 12,mY 16 12 2,zGt 4 1000000005,xH 4 15 4 15] (zQ (.join [⟨3,[.sl [.i .i64]],false⟩] 68719345736 none (zS [bN 6] (.block 0 (.loop [⟨3,[.sl [.i .i64]],false⟩,⟨6,[.i .i64],false⟩] 68719345736 (zQ (zS [Ga 17 6 1 0,mf 20 17 19] (zC 20 .skip (.exit 0))) (zQ (.block 1 (zR [dh 3 23 3,ai 27 6,xG 24 4 1,lS 26 4 2,lQ 28 116 26 27,Ya 29 25 28 4 1 1,jH 31 120 30,zGy 32 31,Em 33 31 1 32,MS 34 33,F_ 23 34 35 23 3])) (zR [gJ 21 6 6]))))))) (zS [Cx 3 36 3 2] .ret))))))
def PW:aO:=⟨[.rd true Ct6],(.one false jP)⟩
def PY:aN:=aG [(112,EB),(115,uL),(116,BD),(120,yg)]
def EJ (n:Nat):mK->Option ((List Int) × Unit):=aI n PY PV [iG] [.sl [.i .i64]] [] [2] .no
def sj:=EJ BIG
def EL:TSp:=⟨PW,[iG],[.sl [.i .i64]],[],Ou.j .no,sj⟩
theorem aix:zK PY 88 PW PV 37 .no [2]:=by show _=_;kernel_rfl
theorem Ni:EL.Ok PG 88:=aV (ae GA (ae yf (ae Dr (ae AA (ax PG))))) aix (by kernel_rfl)
theorem aiy (n) (a0):EJ n a0 = (zV a0).bind fun r0=> bif !r0.1 then some ([],()) else (qH (a0,(0:Int))).bind fun r1=> (aU n (X:=(List Int) × Int) (B:=(List Int)) (fun self3 x2=> bif decide (x2.2<a0.1) then (nP ((r1.1.1,r1.1.2.1),x2.2)).bind fun r4=> bnd r1.1.2.1.length r4.1 fun n5=> r1.1.2.1[n5]?.bind fun y6=> (kP y6).bind fun r7=> bnd r7.1.length (0:Int) fun n8=> r7.1[n8]?.bind fun y9=> bif decide (x2.1.length+[y9].length<=4294967296) then self3 (x2.1++[y9],IntKind.wrap .i64 (x2.2+1)) else none else some x2.1) ([],(0:Int))).bind fun x10=> some (x10,()):=by kernel_rfl
def Y9:TC:=
 (zS [nO 1 0] (zQ (.seq (.join [⟨12,[.b],false⟩] 8184 none (zR [lm 3 1 0 3,ug 5 32 4 3,jr 6 5,ai 7 6,Bo 8 4,zHb 9 1 1 8 2 4,Jj 112 9 10 10 4,uH 11 10 4 7])) (zC 12 (zS [bH 2] .ret) .skip)) (zQ (.join [⟨2,[.b],false⟩] 8589926404 none (zR [M4 13 1 3 4,jH 15 43 14,ai 16 15,Bo 17 3,MW 18 17 3,OZ 19 1 1 18 3,Bo 20 3,zHb 21 1 3 20 4 3,F7 89 19 21 22 22 3,iL 23 22 3,mZ 24 10,Bq 25 24 10,rZ 26 1 6 25 10,mZ 27 10,Ty 28 1 1 27 2 10,zGC 88 28 29 29 10,xE 113 26 29 30 30 10,En 23 30 31 31 3 16,ai 2 32])) .ret)))
def Y_:aO:=⟨[.rd true Ct3],(.one false [.d])⟩
def Za:aN:=aG [(32,d9),(112,EB),(43,Ik),(89,AB),(88,EL),(113,zX)]
def Lc (n:Nat):Zt7->Option ((Bool) × Unit):=aI n Za Y9 [Cu] [.b] [] [2] .no
def Dt:=Lc BIG
def Zb:TSp:=⟨Y_,[Cu],[.b],[],Ou.j .no,Dt⟩
theorem apZ:zK Za 81 Y_ Y9 33 .no [2]:=by show _=_;kernel_rfl
theorem ali:Zb.Ok PG 81:=aV (ae dQ (ae GA (ae PU (ae EH (ae Ni (ae GD (ax PG))))))) apZ (by kernel_rfl)
theorem ap0 (n) (a0):Lc n a0 = ((bD (a0.1,(1:Int),(3:Int))).bind fun r0=> bif !r0.1 then some true else (zV (a0.2.1,a0.2.2.1)).bind fun r1=> some !r1.1).bind fun x2=> bif x2 then some (false,()) else ((uM a0.2.2.2).bind fun r3=> bif r3.1 then some true else (uN (a0.2.1,a0.2.2.2)).bind fun r4=> bif r4.1 then (sj (a0.2.1,a0.2.2.1)).bind fun r5=> (tK (a0.2.2.2.2.2.2,r5.1)).bind fun r6=> some r6.1 else some false).bind fun x7=> some (x7,()):=by kernel_rfl
def EM:TC:=
 (zS [ek 1 0,zHd 2 1000000003] (zS [XY 3,lm 4 1 2 4,yU 3 5 6 3,oW 7,OW 6 2 7 6] (zS [zBc 8,lm 9 1 3 9,yU 8 10 11 8,oW 12,OW 11 3 12 11] (zS [Bt 13 1 4 2 2 1] .ret))))
def EN:aO:=⟨[.rd true OV],(.one true OV)⟩
def EO:aN:=aG []
def vT (n:Nat):wG->Option (wG × Unit):=aI n EO EM [lh] lh [] [2] .no
def kJ:=vT BIG
def vU:TSp:=⟨EN,[lh],lh,[],Ou.j .no,kJ⟩
theorem V8:zK EO 84 EN EM 14 .no [2]:=by show _=_;kernel_rfl
theorem Cy:vU.Ok PG 84:=aV (ax PG) V8 (by kernel_rfl)
theorem V9 (n) (a0):vT n a0 = bif decide (0+a0.2.2.1.length<=4294967296) then bif decide (0+a0.2.2.2.length<=4294967296) then some ((a0.1,a0.2.1,[]++a0.2.2.1,[]++a0.2.2.2),()) else none else none:=by kernel_rfl
def Zc:TC:=
 (zS [ek 1 0,zBD 2 1000000003] (zS [[o1 3 (.sli oU [])],oW 4,Jf 5 4,Bn 6 1 2 5,yU 3 6 7 3,oW 8,Jf 9 8,OW 7 2 9 7] (zS [M4 10 1 3 4,jH 12 84 11,oW 13,OW 12 3 13 12] (zS [Bt 14 1 7 2 2 1] .ret))))
def Zd:aO:=⟨[.rd true Ct3],(.one true Ct3)⟩
def Ze:aN:=aG [(84,vU)]
def Ld (n:Nat):Zt7->Option (Zt7 × Unit):=aI n Ze Zc [Cu] Cu [] [2] .no
def yh:=Ld BIG
def Zf:TSp:=⟨Zd,[Cu],Cu,[],Ou.j .no,yh⟩
theorem ap1:zK Ze 83 Zd Zc 15 .no [2]:=by show _=_;kernel_rfl
theorem alj:Zf.Ok PG 83:=aV (ae Cy (ax PG)) ap1 (by kernel_rfl)
theorem ap2 (n) (a0):Ld n a0 = bif decide (0+a0.2.2.1.length<=4294967296) then (kJ a0.2.2.2).bind fun r0=> some ((a0.1,a0.2.1,[]++a0.2.2.1,r0.1),()) else none:=by kernel_rfl
def Zg:TC:=
 (zS [ek 2 0,nO 3 1] (zS [lm 5 2 1 5,eF 7 3 2,lQ 8 109 6 7,ai 4 8] .ret))
def Zh:aO:=⟨[.rd true apo,.rd true [.d,.d]],(.one false [.d])⟩
def Zi:aN:=aG [(109,BB)]
def Lf (n:Nat):aco × bG->Option ((Bool) × Unit):=aI n Zi Zg [xB,[.i .i64,.i .i64]] [.b] [] [4] .no
def Du:=Lf BIG
def Lg:TSp:=⟨Zh,[xB,[.i .i64,.i .i64]],[.b],[],Ou.j .no,Du⟩
theorem ap3:zK Zi 118 Zh Zg 9 .no [4]:=by show _=_;kernel_rfl
theorem Uu:Lg.Ok PG 118:=aV (ae Dp (ax PG)) ap3 (by kernel_rfl)
theorem ap4 (n) (a0) (a1):Lf n (a0,a1) = (wI (a0.2,a1)).bind fun r0=> some (r0.1,()):=by kernel_rfl
def Zj:TC:=
 (zS [ek 2 0,ek 3 1,zGq 4 1000000005,bH 5] (zQ (.seq (.join [⟨20,[.b],false⟩] 2097088 none (zR [eF 6 2 2,jH 7 127 6,jr 8 7,ai 9 8,pE 10 3 2 0 3,MV 12 3 2 3,F7 107 11 12 13 13 3,oh 14 13 3 9,MV 17 2 2 10,MV 18 3 2 10,F7 118 17 18 19 19 10,xD 16 19 20])) (zC 20 (zS [[o1 21 (.build xB [])],Bv 4 21 4 21] .ret) .skip)) (zS [Bu 22 2 0 2 1,Jo 26 3 2 111 25,[o5 (.build xB [(0,.t 23),(1,.t 27)]) 28 27],mX 4 28 4 28,ic 5] .ret)))
def Zk:aO:=⟨[.rd true apo,.rd true [.d,.d]],(.tup [(true,2),(false,1)] [.d,.sl (.own none) [.d,.d],.d])⟩
def Zl:aN:=aG [(127,K3),(107,Bz),(118,Lg),(111,Gy)]
def Lh (n:Nat):aco × bG->Option ((Int × List bG × Bool) × Unit):=aI n Zl Zj [xB,[.i .i64,.i .i64]] [.i .i64,.sl [.i .i64,.i .i64],.b] [] [4,5] .no
def Li:=Lh BIG
def Zm:TSp:=⟨Zk,[xB,[.i .i64,.i .i64]],[.i .i64,.sl [.i .i64,.i .i64],.b],[],Ou.j .no,Li⟩
theorem ap5:zK Zl 114 Zk Zj 29 .no [4,5]:=by show _=_;kernel_rfl
theorem alk:Zm.Ok PG 114:=aV (ae Ue (ae Dj (ae Uu (ae KX (ax PG))))) ap5 (by kernel_rfl)
theorem ap6 (n) (a0) (a1):Lh n (a0,a1) = ((Dq a0).bind fun r0=> bif !r0.1 then some true else (wH (a0.1,a1)).bind fun r1=> bif !r1.1 then some true else (Du (a0,a1)).bind fun r2=> some r2.1).bind fun x3=> bif x3 then some (((0:Int),[],false),()) else (BC (a0.2,a1)).bind fun r4=> some ((a0.1,r4.1,true),()):=by kernel_rfl
def aep:TC:=
 (zS [ek 3 1,[o1 4 (.lit oP [.slice none 0 0])]] (zS [[o1 8 (.sli oU [])],dh 8 5 8] (zQ (.join [⟨5,oP,false⟩] 1125899906842208 none (zS [bN 6] (.block 0 (.loop [⟨5,oP,false⟩,⟨6,[.i .i64],false⟩] 1125899906842208 (zQ (zS [dC 9 6 0,qZ 11 10 9] (zC 12 .skip (.exit 0))) (zQ (.join [⟨5,oP,false⟩] 1125899906809888 none (.block 1 (zQ (.join [⟨42,[.b],false⟩] 8796092989440 none (zR [dC 15 0 6,Jk 17 15 16 4,bV 20 3 0,mf 22 19 21,ai 23 22,iL 24 0 8,zLt 25 6 8 24 8,MW 27 26 8,zEc 28 24 4 27 8,pE 29 8 3 0 8,zDw 31 28 30 8,iL 32 31 8,ik 33 0 17,ik 34 6 17,Cv 35 33 34 17,Bq 36 35 17,zHe 37 33 4 1 36 17,wF 38 17 3 1,zDt 40 37 39 17,En 32 40 41 41 8 23])) (zC 42 (zR [dh 5 43 5,Tz 44 0 6 4 4,zHf 48 47,F_ 43 48 49 43 5]) .skip)))) (zR [gJ 13 6 6]))))))) (zS [dh 5 50 5,eF 51 3 4,zHf 52 51,F_ 50 52 53 50 5] (zQ (.join [⟨5,oP,false⟩] 39614081257114154398262493344 none (zS [bN 7] (.block 2 (.loop [⟨5,oP,false⟩,⟨7,[.i .i64],false⟩] 39614081257114154398262493344 (zQ (zS [Jl 54 7 0] (zC 57 .skip (.exit 2))) (zQ (.join [⟨5,oP,false⟩] 39614081255979247292165128224 none (.block 3 (zQ (.join [⟨87,[.b],false⟩] 309485008668423564117934080 none (zR [dC 60 0 7,Jk 62 60 61 4,bV 65 3 0,zHg 67 64 66,ai 68 67,iL 69 0 8,zLt 70 7 8 69 8,MW 72 71 8,zEc 73 69 4 72 8,pE 74 8 3 0 8,zDw 76 73 75 8,iL 77 76 8,ik 78 0 17,ik 79 7 17,Cv 80 78 79 17,Bq 81 80 17,zHe 82 78 4 1 81 17,wF 83 17 3 1,zGD 85 82 84 17,En 77 85 86 86 8 68])) (zC 87 (zR [dh 5 88 5,Tz 89 0 7 4 4,zHf 93 92,F_ 88 93 94 88 5]) .skip)))) (zR [gJ 58 7 7]))))))) (zS [Cx 5 95 5 4] .ret))))))
def aeq:aO:=⟨[.rd false Ct8,.rd true [.d,.d,.d,.d]],(.one false Ct8)⟩
def aer:aN:=aG []
def PZ (n:Nat):(List nZ) × nZ->Option ((List nZ) × Unit):=aI n aer aep [oP,oU] oP [] [4] .no
def P5:=PZ BIG
def aes:TSp:=⟨aeq,[oP,oU],oP,[],Ou.j .no,P5⟩
theorem atI:zK aer 117 aeq aep 96 .no [4]:=by show _=_;kernel_rfl
theorem ap7:aes.Ok PG 117:=aV (ax PG) atI (by kernel_rfl)
theorem atJ (n) (a0) (a1):PZ n (a0,a1) = (aU n (X:=(List nZ) × Int) (B:=(List nZ)) (fun self1 x0=> bif decide (x0.2<(a0.length:Int)) then ((bnd a0.length x0.2 fun n2=> a0[n2]?.bind fun y3=> bif decide (y3.1<a1.1) then some true else bnd a0.length x0.2 fun n4=> a0[n4]?.bind fun y5=> bif decide (y5.1=a1.1) then bnd a0.length x0.2 fun n6=> a0[n6]?.bind fun y7=> some (decide (y7.2.1<a1.2.1)) else some false).bind fun x8=> bif x8 then bnd a0.length x0.2 fun n9=> a0[n9]?.bind fun y10=> bif decide (x0.1.length+[y10].length<=4294967296) then some (x0.1++[y10]) else none else some x0.1:Option ((List nZ))).bind fun x11=> self1 (x11,IntKind.wrap .i64 (x0.2+1)) else some x0.1) ([],(0:Int))).bind fun x12=> bif decide (x12.length+[a1].length<=4294967296) then (aU n (X:=(List nZ) × Int) (B:=(List nZ)) (fun self14 x13=> bif decide (x13.2<(a0.length:Int)) then ((bnd a0.length x13.2 fun n15=> a0[n15]?.bind fun y16=> bif decide (a1.1<y16.1) then some true else bnd a0.length x13.2 fun n17=> a0[n17]?.bind fun y18=> bif decide (y18.1=a1.1) then bnd a0.length x13.2 fun n19=> a0[n19]?.bind fun y20=> some (decide (a1.2.1<y20.2.1)) else some false).bind fun x21=> bif x21 then bnd a0.length x13.2 fun n22=> a0[n22]?.bind fun y23=> bif decide (x13.1.length+[y23].length<=4294967296) then some (x13.1++[y23]) else none else some x13.1:Option ((List nZ))).bind fun x24=> self14 (x24,IntKind.wrap .i64 (x13.2+1)) else some x13.1) (x12++[a1],(0:Int))).bind fun x25=> some (x25,()) else none:=by kernel_rfl
def aet:TC:=
 (zS [ek 2 0,ek 3 1,zBB 4 1000000005,bH 5] (zS [zGj 1000000007 2 2 12 12,[⟨false,[],[1000000007],.call 1 87 [.t 12] .no,[13],(some 13),none⟩],zGj 1000000007 3 2 14 14,zHh 1000000007 114 13 14 15 15,zKy 1000000007 2 15 11 15 11 2 2,zGq 6 1000000007,xH 6 16 6 16] (zQ (.seq (.join [⟨24,[.b],false⟩] 33292288 none (zR [M3 18 2 2 112,Gb 20 19 7 3,uH 23 22 3 21])) (zC 24 (zS [zBC 25,Bv 4 25 4 25] .ret) .skip)) (zS [eF 27 2 2,[o3 28 115 [.t 27,kO 0]],dh 28 26 28,zDa 26 2 29 26,mY 30 26 2,zGt 8 1000000009,xH 8 29 8 29] (zS [zKj 1000000011 31 31 0,zKj 1000000011 33 33 1,zHm 1000000011 8 2 35 35,zKj 1000000011 36 36 0,zHh 1000000011 116 35 37 38 38,zHm 1000000011 8 2 39 39,zKj 1000000011 40 40 1,zHh 1000000011 116 39 41 42 42,[⟨false,[],[1000000011],.det 1 (.data (.bin .neq) [.t 38,.t 42]),[43],(some 43),none⟩,⟨false,[],[1000000011],.det 1 (.build oU [(0,.t 32),(1,.t 34),(3,.t 43)]),[44],(some 44),none⟩],zGr 10 1000000011,jW 10 10 44] (zS [Bu 45 2 0 2 1,Jo 49 10 4 117 48,[o5 (.build iG [(0,.t 46),(1,.t 50)]) 51 50],mX 4 51 4 51,ic 5] .ret))))))
def aeu:aO:=⟨[.rd true Ct6,.rd true [.d,.d]],(.tup [(true,2),(false,1)] [.d,.sl (.own none) [.d,.d,.d,.d],.d])⟩
def aev:aN:=aG [(87,x_),(114,Zm),(112,EB),(115,uL),(116,BD),(117,aes)]
def P6 (n:Nat):mK × bG->Option (Zt8 × Unit):=aI n aev aet [iG,[.i .i64,.i .i64]] apn [] [4,5] .no
def wK:=P6 BIG
def aew:TSp:=⟨aeu,[iG,[.i .i64,.i .i64]],apn,[],Ou.j .no,wK⟩
theorem atK:zK aev 85 aeu aet 52 .no [4,5]:=by show _=_;kernel_rfl
theorem ap8:aew.Ok PG 85:=aV (ae Az (ae alk (ae GA (ae yf (ae Dr (ae ap7 (ax PG))))))) atK (by kernel_rfl)
theorem atL (n) (a0) (a1):P6 n (a0,a1) = (l6 a0).bind fun r0=> (Li (r0.1,a1)).bind fun r1=> ((zV a0).bind fun r2=> bif !r2.1 then some true else some !r1.1.2.2).bind fun x3=> bif x3 then some (((0:Int),[],false),()) else (qH (a0,(0:Int))).bind fun r4=> (nP ((r4.1.1,r4.1.2.1),a1.1)).bind fun r5=> (nP ((r4.1.1,r4.1.2.1),a1.2)).bind fun r6=> (P5 (a0.2,(a1.1,a1.2,(0:Int),!decide (r5.1=r6.1)))).bind fun r7=> some ((a0.1,r7.1,true),()):=by kernel_rfl
def P7:TC:=
 (zS [ek 3 0,ek 4 1,[o1 6 (.lit oP [.slice none 0 0])],bN 7] (zS [[o1 18 (.sli oU [])],bV 19 3 1,F_ 18 20 21 18 8] (zS [eF 23 3 2,ai 24 2,zLi 25 115 23 24 22 2,mY 27 22 2,zGt 9 1000000010,xH 9 26 9 26] (zS [xG 28 9 1,lS 30 9 2,bV 31 4 0,lQ 33 116 30 32,Ya 34 29 33 9 1 1,X7 36 120 35 11] (zS [xG 37 9 1,lS 39 9 2,bV 40 4 1,lQ 42 116 39 41,Ya 43 38 42 9 1 1,X7 45 120 44 12] (zQ (.join [⟨11,[.sl [.i .i64]],false⟩] 4433230883198976 none (zS [ku 46 12,mJ 47 46,ku 48 11,qZ 49 48 47] (zC 50 (zR [X3 12 51 12 46 51,X3 51 11 51 48 11]) .skip))) (zS [gJ 52 2 13] (zQ (.join [⟨13,[.i .i64],false⟩] 54043195528454144 none (zS [ai 54 13,El 55 54 4] (zC 55 (zR [uh 13 4]) .skip))) (zQ (.join [⟨8,oP,false⟩] 1237940039213322680861212928 none (zS [bN 14] (.block 0 (.loop [⟨8,oP,false⟩,⟨14,[.i .i64],false⟩] 1237940039213322680861212928 (zQ (zS [ai 56 14,ku 57 8,qZ 58 57 56] (zC 59 .skip (.exit 0))) (zQ (.join [⟨8,oP,false⟩] 1237940034817809444547592448 none (.block 1 (zQ (.join [⟨84,[.b],false⟩] 38685621615982115163209728 none (zR [M5 62 8 14,X6 64 62 63,zBh 66 8 4 3 65,ai 67 66,zGz 8 68 68 5,ik 69 14 5,Cv 70 68 69 5,Bq 71 70 5,zHe 72 8 4 2 71 5,ik 73 2 5,zLu 74 72 73 5 67,zGz 11 77 77 14,zGz 8 78 78 14,ik 79 14 14,Cv 80 78 79 14,Bq 81 80 14,O1 82 8 4 81 14,xE 129 77 82 83 83 14,Bl 76 83 84])) (zC 84 (zR [ku 85 8,dC 86 14 13,X6 88 85 86,[o4 1 [8,57,62,85] (.store 8 [(0,4)] 2 (.t 89) (.t 87))]]) .skip)))) (zR [O9 60 14]))))))) (zQ (.join [⟨8,oP,false⟩] 713623846352979939291202945439367293292478912 (some [⟨6,oP,false⟩,⟨7,[.i .i64],false⟩]) (zS [bN 15] (.block 2 (.loop [⟨8,oP,false⟩,⟨15,[.i .i64],false⟩] 713623846352979939291202945583482481368334784 (zQ (zS [ai 90 15,ku 91 8,qZ 92 91 90] (zC 93 .skip (.exit 2))) (zQ (.join [⟨8,oP,false⟩] 713623846352979863776860549031170524445868480 (some [⟨6,oP,false⟩,⟨7,[.i .i64],false⟩]) (.block 3 (zS [ku 96 11,M5 97 8 15,X6 99 97 98,Em 101 8 4 100,lQ 102 129 96 101,ai 16 102] (zS [ku 103 11,M5 104 8 15,X6 106 104 105,zBh 108 8 4 1 107,lQ 109 129 103 108,ai 17 109] (zQ (.seq (.join [⟨133,[.b],false⟩] 21778070184865847027949067743009083228160 none (zR [xK 110 3 1 15,O5 113 111 112 4 3,ai 116 115,pE 117 6 3 1 6,zLt 119 15 6 118 6,MW 121 120 6,[o2 122 (.load 118 [(0,4)] 2 (.t 121) 1 false) 6 false],iL 123 2 6,MU 124 122 123 6,Jn 116 124 125,iL 127 16 16,zBp 128 127 16,iL 129 128 16,ik 130 17 19,zDD 131 130 19,En 129 131 132 132 16 126])) (zC 133 (.exit 3) .skip)) (zQ (.seq (.join [⟨137,[.b],false⟩] 326671072244100924924839623134497482997760 none (zR [ai 134 16,M6 135 134 17 1,Bl 135 136 137])) (zC 137 (zS [ku 138 8,dC 139 15 13,X6 141 138 139,[o4 1 [8,91,97,104,138] (.store 8 [(0,4)] 2 (.t 142) (.t 140))]] (.exit 3)) .skip)) (zS [M5 143 8 15,X6 145 143 144,[o4 1 [8,91,97,104,143] (.store 8 [(0,4)] 3 (.t 146) (.c [.b] [.bool true]))]] (zS [[⟨false,[],[],.det 2 (.copy 8),[147,8,99,100,106,107,145,146],(some 147),none⟩],ai 148 15,dh 147 6 147,ai 7 148] .ret)))))))) (zR [O9 94 15]))))))) (zS [X3 8 149 8 91 149,dh 149 6 149,zEf 7] .ret)))))))))))
def P8:aO:=⟨[.rd true Ct6,.rd true [.d,.d],.rd false [.d]],(.tup [(false,1),(false,1)] Ct7)⟩
def P9:aN:=aG [(115,uL),(116,BD),(120,yg),(129,vQ)]
def EP (n:Nat):mK × bG × Int->Option ((List nZ × Int) × Unit):=aI n P9 P7 [iG,[.i .i64,.i .i64],[.i .i64]] [.sl oU,.i .i64] [] [6,7] .no
def su:=EP BIG
def P_:TSp:=⟨P8,[iG,[.i .i64,.i .i64],[.i .i64]],[.sl oU,.i .i64],[],Ou.j .no,su⟩
theorem aiz:zK P9 119 P8 P7 150 .no [6,7]:=by show _=_;kernel_rfl
theorem afY:P_.Ok PG 119:=aV (ae yf (ae Dr (ae AA (ae wJ (ax PG))))) aiz (by kernel_rfl)
theorem aiA (n) (a0) (a1) (a2):EP n (a0,a1,a2) =
 bif decide (0+a0.2.length<=4294967296) then
  (qH (a0,a2)).bind fun r0=>
  (nP ((r0.1.1,r0.1.2.1),a1.1)).bind fun r1=>
  bnd r0.1.2.1.length r1.1 fun n2=>
  r0.1.2.1[n2]?.bind fun y3=>
  (kP y3).bind fun r4=>
  (nP ((r0.1.1,r0.1.2.1),a1.2)).bind fun r5=>
  bnd r0.1.2.1.length r5.1 fun n6=>
  r0.1.2.1[n6]?.bind fun y7=>
  (kP y7).bind fun r8=>
  (bif decide ((r8.1.length:Int)<(r4.1.length:Int)) then
   some r8.1
   else some r4.1).bind fun x9=>
  (bif decide (4<(IntKind.wrap .i64 (a2+1))) then
   some (4:Int)
   else some (IntKind.wrap .i64 (a2+1))).bind fun x10=>
  (aU n (X:=(List nZ) × Int) (B:=(List nZ)) (fun self12 x11=>
   bif decide (x11.2<(x11.1.length:Int)) then
    ((bnd x11.1.length x11.2 fun n13=>
     x11.1[n13]?.bind fun y14=>
     bif y14.2.2.2 then
      bnd x11.1.length x11.2 fun n15=>
      x11.1[n15]?.bind fun y16=>
      bif decide (y16.2.2.1=a2) then
       bnd x11.1.length x11.2 fun n17=>
       x11.1[n17]?.bind fun y18=>
       (jX (x9,y18.1)).bind fun r19=>
       some r19.1
      else some false
     else some false).bind fun x20=>
     bif x20 then
      bnd x11.1.length x11.2 fun n21=>
      x11.1[n21]?.bind fun y22=>
      some (x11.1.set n21 (y22.1,y22.2.1,x10,y22.2.2.2))
     else some x11.1).bind fun x23=>
    self12 (x23,IntKind.wrap .i64 (x11.2+1))
   else some x11.1) ([]++a0.2,(0:Int))).bind fun x24=>
  (aU n (X:=(List nZ) × Int) (B:=((List nZ)) ⊕ ((List nZ) × Int)) (fun self26 x25=>
   bif decide (x25.2<(x25.1.length:Int)) then
    (bnd x25.1.length x25.2 fun n27=>
     x25.1[n27]?.bind fun y28=>
     (jX (x9,y28.1)).bind fun r29=>
     bnd x25.1.length x25.2 fun n30=>
     x25.1[n30]?.bind fun y31=>
     (jX (x9,y31.2.1)).bind fun r32=>
     (bnd a0.2.length x25.2 fun n33=>
      a0.2[n33]?.bind fun y34=>
      bif y34.2.2.2 then
       some true
      else bnd a0.2.length x25.2 fun n35=>
      a0.2[n35]?.bind fun y36=>
      bif !decide (y36.2.2.1=a2) then
       some true
      else bif !r29.1 then
       some !r32.1
      else some false).bind fun x37=>
     bif x37 then
      some (Sum.inl x25.1)
     else (bif r29.1 then
      some r32.1
      else some false).bind fun x38=>
     bif x38 then
      bnd x25.1.length x25.2 fun n39=>
      x25.1[n39]?.bind fun y40=>
      some (Sum.inl (x25.1.set n39 (y40.1,y40.2.1,x10,y40.2.2.2)))
     else bnd x25.1.length x25.2 fun n41=>
     x25.1[n41]?.bind fun y42=>
     some (Sum.inr (x25.1.set n41 (y42.1,y42.2.1,y42.2.2.1,true),x25.2))).bind fun y=>match y with
    | .inl x43=>
     self26 (x43,IntKind.wrap .i64 (x25.2+1))
    | .inr x43=>
     some (Sum.inr (x43.1,x43.2))
   else some (Sum.inl x25.1)) (x24,(0:Int))).bind fun y=>match y with
  | .inl x44=>
   some ((x44,(-1:Int)),())
  | .inr x44=>
   some (x44,())
 else none:=by kernel_rfl
def Zn:TC:=
 (zS [ek 2 0,ek 3 1,zBB 4 1000000005,zGb 5 1000000006,bH 6,bH 7] (zQ (.seq (.join [⟨23,[.b],false⟩] 16760832 none (zR [M3 14 2 2 112,Cw 16 15,MV 18 2 2 3,Jj 87 18 19 19 3,MV 20 3 2 3,F7 118 19 20 21 21 3,uH 22 21 3 17])) (zC 23 (zS [zBC 24,zHn 25,mX 4 24 4 24,jW 5 5 25,zHo,bH 7] .ret) .skip)) (zS [bV 26 2 0,[o1 28 (.build iG [(0,.t 27)])],zBB 8 1000000009,mX 8 28 8 28] (zS [[o1 29 (.build oU [])],zGr 9 1000000010,jW 9 9 29] (zQ (.join [⟨9,oU,false⟩,⟨8,iG,false⟩] 4722366482868571473664 none (zS [bN 10] (.block 0 (.loop [⟨9,oU,false⟩,⟨8,iG,false⟩,⟨10,[.i .i64],false⟩] 4722366482868571473664 (zQ (zS [O7 30 10 2 1 33] (zC 34 .skip (.exit 0))) (zQ (.join [⟨9,oU,false⟩,⟨8,iG,false⟩] 4722366482732206260992 none (.block 1 (zQ (.join [⟨56,[.b],false⟩] 144115050636902400 none (zR [ai 39 10,bV 37 2 1,Jk 40 38 39 4,bV 43 3 0,Bp 45 42 44,Gc 46 45 9 2 1 9,ik 49 10 9,Cv 50 48 49 9,Bq 51 50 9,zHe 52 48 4 1 51 9,F9 53 9 3 1 9,zEg 55 52 54 9,Bl 46 55 56])) (zC 56 (zR [xK 57 2 1 10,uJ 60 58 59 4 4,jW 9 9 61]) (zR [ai 66 10,xG 62 8 1,bV 64 2 1,uJ 67 65 66 4 4,zHf 69 68,O_ 63 63 69 70 63 63 8 70 8 8 1]))))) (zR [O9 35 10]))))))) (zQ (zS [bV 72 9 3,jr 74 73] (zC 74 (zS [lS 75 8 2,zHn 76,zBz 75 4 75 4 75 75 8,jW 5 5 76,zHo,ic 7] .ret) .skip)) (zQ (.join [⟨8,iG,false⟩,⟨4,iG,false⟩,⟨5,[.i .i64,.i .i64],false⟩] 81129638263490954243960358320624 (some [⟨4,iG,false⟩,⟨5,[.i .i64,.i .i64],false⟩,⟨6,[.b],false⟩,⟨7,[.b],false⟩]) (zS [[⟨false,[],[3000008001],.det 1 (.idx .nil),[77,8],(some 77),none⟩],Bn 78 9 2 77,ai 11 78] (.block 2 (.loop [⟨8,iG,false⟩,⟨4,iG,false⟩,⟨5,[.i .i64,.i .i64],false⟩,⟨11,[.i .i64],false⟩] 81129637810143771888474417805808 (zQ (zS [ai 79 11,zHp 80 79] (zC 80 .skip (.exit 2))) (zQ (.block 3 (zS [eF 84 8 2,eF 85 3 2,ai 86 11,zGg 87 119 84 85 86,dh 87 83 87,TA 83 88 83 1 12] (zS [zGv 12 12 90 12 90,xJ 91 8 8 1 90] (zS [ai 92 13,zHp 93 92] (zC 93 (zS [uI 95 12,uI 100 12,eF 94 8 2,zGn 4 95 96 97 97,zHq 97 98 98,zGo 4 95 4 98 1 99 99,zGn 4 100 101 102 102,zHq 102 103 103,[⟨false,[],[4],.det 1 (.load 100 [(0,4)] 1 (.t 103) 1 false),[104],(some 104),none⟩,⟨false,[],[4],.det 1 (.build [.i .i64,.i .i64] [(0,.t 99),(1,.t 104)]),[105],(some 105),none⟩],jW 4 4 94,jW 5 5 105,ic 6,ic 7] .ret) .skip))))) (zR [ai 81 11,F8 82 81,ai 11 82]))))))) (zS [eF 106 8 2,zHn 107,jW 4 4 106,jW 5 5 107,bH 6,ic 7] .ret))))))))
def Zo:aO:=⟨[.rd true Ct6,.rd true [.d,.d]],(.tup [(true,2),(true,2),(false,1),(false,1)] [.d,.sl (.ro []) [.d,.d,.d,.d],.d,.d,.d,.d])⟩
def Zp:aN:=aG [(112,EB),(87,x_),(118,Lg),(119,P_)]
def Lj (n:Nat):mK × bG->Option ((Int × List nZ × Int × Int × Bool × Bool) × Unit):=aI n Zp Zn [iG,[.i .i64,.i .i64]] [.i .i64,.sl oU,.i .i64,.i .i64,.b,.b] [] [4,5,6,7] .no
def l7:=Lj BIG
def Zq:TSp:=⟨Zo,[iG,[.i .i64,.i .i64]],[.i .i64,.sl oU,.i .i64,.i .i64,.b,.b],[],Ou.j .no,l7⟩
theorem ap9:zK Zp 86 Zo Zn 108 .no [4,5,6,7]:=by show _=_;kernel_rfl
theorem alm:Zq.Ok PG 86:=aV (ae GA (ae Az (ae Uu (ae afY (ax PG))))) ap9 (by kernel_rfl)
theorem ap_ (n) (a0) (a1):Lj n (a0,a1) = ((zV a0).bind fun r0=> bif !r0.1 then some true else (l6 a0).bind fun r1=> (Du (r1.1,a1)).bind fun r2=> some !r2.1).bind fun x3=> bif x3 then some (((0:Int),[],(0:Int),(0:Int),false,false),()) else (aU n (X:=nZ × mK × Int) (B:=nZ × mK) (fun self5 x4=> bif decide (x4.2.2<(a0.2.length:Int)) then ((bnd a0.2.length x4.2.2 fun n6=> a0.2[n6]?.bind fun y7=> bif decide (y7.1=a1.1) then bnd a0.2.length x4.2.2 fun n8=> a0.2[n8]?.bind fun y9=> some (decide (y9.2.1=a1.2)) else some false).bind fun x10=> bif x10 then bnd a0.2.length x4.2.2 fun n11=> a0.2[n11]?.bind fun y12=> some (y12,x4.2.1) else bnd a0.2.length x4.2.2 fun n13=> a0.2[n13]?.bind fun y14=> bif decide (x4.2.1.2.length+[y14].length<=4294967296) then some (x4.1,(x4.2.1.1,x4.2.1.2++[y14])) else none:Option (nZ × mK)).bind fun x15=> self5 (x15.1,x15.2,IntKind.wrap .i64 (x4.2.2+1)) else some (x4.1,x4.2.1)) (((0:Int),(0:Int),(0:Int),false),(a0.1,[]),(0:Int))).bind fun x16=> bif !x16.1.2.2.2 then some ((x16.2.1,x16.2.2,(0:Int),(0:Int),false,true),()) else (aU n (X:=mK × mK × bG × Int) (B:=(mK × mK × bG) ⊕ (mK × bG × Bool × Bool)) (fun self18 x17=> bif decide (0<=x17.2.2.2) then (su (x17.1,a1,x17.2.2.2)).bind fun r19=> bif decide (0<=r19.1.2) then bnd r19.1.1.length r19.1.2 fun n20=> r19.1.1[n20]?.bind fun y21=> bnd r19.1.1.length r19.1.2 fun n22=> r19.1.1[n22]?.bind fun y23=> some (Sum.inr ((x17.1.1,r19.1.1),(y21.1,y23.2.1),true,true)) else self18 ((x17.1.1,r19.1.1),x17.2.1,x17.2.2.1,IntKind.wrap .i64 (x17.2.2.2-1)) else some (Sum.inl (x17.1,x17.2.1,x17.2.2.1))) (x16.2,((0:Int),[]),((0:Int),(0:Int)),x16.1.2.2.1)).bind fun y=>match y with | .inl x24=> some ((x24.1.1,x24.1.2,(0:Int),(0:Int),false,true),()) | .inr x24=> some ((x24.1.1,x24.1.2,x24.2.1.1,x24.2.1.2,x24.2.2),()):=by kernel_rfl
def ant:TC:=
 (zS [ek 2 0,ek 3 1,zBD 4 1000000005,zHd 5 1000000006,bN 6] (zQ (.seq (.join [⟨45,[.b],false⟩] 70368743915520 none (zR [M3 18 2 7 81,Cw 20 19,Bo 22 3,MW 23 22 3,OZ 24 2 1 23 3,MV 25 3 4 3,F7 82 24 25 26 26 3,oh 27 26 3 21,qi 30 11 3 0,Bo 32 11,MW 33 32 11,OZ 34 2 3 33 11,MU 35 31 34 11,iL 36 35 11,wF 37 18 3 0,mZ 39 18,Bq 40 39 18,rZ 41 2 3 40 18,zEt 42 41 1 18,zEp 43 38 42 18,En 36 43 44 44 11 29])) (zC 45 (zS [[o1 46 (.build Cu [])],zHa 47,mX 4 46 4 46,mX 5 47 5 47,uh 6 1] .ret) .skip)) (zQ (zS [bV 48 3 0,M0 50,Bn 52 2 3 51,Bp 53 49 52] (zC 53 (zS [M3 54 2 7 83,M4 56 2 3 4,jH 58 84 57,mX 4 55 4 55,mX 5 58 5 58,bN 6] .ret) .skip)) (zS [bV 59 3 0,[o5 (.build lh [(0,.t 60),(1,.c [.b] [.bool true])]) 61 1000000002],zHd 7 1000000008,mX 7 61 7 61] (zS [[⟨false,[],[3000002002],.det 1 (.idx .nil),[62,2,50,51],(some 62),none⟩],zDo 63 2 1 62 2,zBB 8 1000000009,jW 8 8 63] (zQ (.join [⟨8,iG,false⟩,⟨7,lh,false⟩] 1461501637330902918203684832697836275582223253376 none (zS [bV 64 3 1] (.block 0 (zQ (.join [⟨66,[.b],false⟩] 516508834063867445248 none (zS [TD 67 65 1] (zC 66 .skip (zR [TD 68 65 4])))) (zC 66 (zS [bN 9] (.block 1 (.loop [⟨8,iG,false⟩,⟨7,lh,false⟩,⟨9,[.i .i64],false⟩] 19807040038270274039680339840 (zQ (zS [O7 69 9 3 2 72] (zC 73 .skip (.exit 1))) (zQ (.join [⟨8,iG,false⟩,⟨7,lh,false⟩] 19806965070702358484062571904 none (.block 2 (zS [ai 80 9,zGj 1000000011 8 2 77 77,zKj 1000000011 78 78 2,zGn 1000000011 79 80 81 81,zGo 1000000011 79 2 81 2 82 82,zHh 1000000011 85 77 82 83 83,zKy 1000000011 2 83 76 83 76 2 2,zBB 10 1000000011,xH 10 84 10 84] (zQ (.join [⟨8,iG,false⟩] 232113757366008801543587072 none (zS [ai 86 11] (zC 86 (zR [[⟨false,[],[3000010001],.det 1 (.load 10 [] 0 .nil 2 false),[87,10],(some 87),none⟩],jW 8 8 87]) .skip))) (.join [⟨7,lh,false⟩] 19497555618744739329661206656 none (zR [bV 88 7 1,M6 90 89 11 2,Bl 90 91 92,xJ 93 7 7 1 92])))))) (zR [gJ 74 9 9])))))) (zS [xI 95 65 2 94] (zC 94 (zS [zHr 1000000013 1000000014 8 2 97 97,[⟨false,[],[1000000013,1000000014],.det 1 (.idx .nil),[98],(some 98),none⟩,⟨false,[],[1000000013,1000000014],.det 1 (.load 3 [] 2 (.t 98) 1 false),[99],(some 99),none⟩,⟨false,[],[1000000013,1000000014],.det 1 (.index 99 (kD 0)),[100],(some 100),none⟩,⟨false,[],[1000000013,1000000014],.det 1 (.load 99 [(0,2)] 0 (.t 100) 2 false),[101],(some 101),none⟩],zHs 1000000013 1000000014 86 97 101 102 102,zHt 1000000013 1000000014 102 96 102 96,zHu 1000000013 1000000014 96 0 2 103 103,zHu 1000000013 1000000014 96 2 2 104 104,zHu 1000000013 1000000014 96 4 1 105 105,zHu 1000000013 1000000014 96 5 1 106 106,[⟨false,[],[1000000014],.det 2 (.a (.c iG [kV 0,.slice none 0 0])),[12,1000000013],(some 12),none⟩,⟨false,[],[1000000013],.det 2 (.a (.c [.i .i64,.i .i64] [kV 0,kV 0])),[13,1000000014],(some 13),none⟩],jW 12 12 103,jW 13 13 104,uI 14 105] (zQ (.join [⟨8,iG,false⟩] 486777830487640090174734030864640 none (zS [ai 107 15] (zC 107 (zR [eF 108 12 2,jW 8 8 108]) .skip))) (zR [ai 109 15,xJ 110 7 7 1 109]))) (zS [xI 112 65 3 111] (zC 111 (zS [M3 113 8 2 87,[o5 (.ext 114 1 1) 115 114],dh 115 16 115] (zS [bN 17] (.block 3 (.loop [⟨8,iG,false⟩,⟨7,lh,false⟩,⟨17,[.i .i64],false⟩] 1461501637330819841453948275474226531714665152896 (zQ (zS [ai 116 17,ku 117 16,qZ 118 117 116] (zC 119 .skip (.exit 3))) (zQ (.join [⟨8,iG,false⟩,⟨7,lh,false⟩] 1461501637325586006220545169224667791414811165056 none (.block 4 (zQ (.join [⟨139,[.b],false⟩] 1393791257996180806682490776812281472745472 none (zR [ku 122 16,ai 123 17,X6 124 122 123,Em 126 16 2 125,bV 127 3 3,Bp 129 126 128,ai 130 129,zHv 16 131 131 8,zLt 132 17 8 131 8,MW 134 133 8,[o2 135 (.load 16 [(0,2)] 1 (.t 134) 1 false) 8 false],pE 136 8 3 3 8,zDw 138 135 137 8,xD 130 138 139])) (zC 139 (zS [ku 142 16,ai 143 17,eF 141 8 2,zLv 144 142 143 16 2 2,qj 146 86 141 145 140,[o1 147 (.ext 140 0 2),o1 148 (.ext 140 2 2)],zJq 149 140 4 5,jW 8 8 147] (zR [ku 153 16,ai 154 17,xG 151 7 2,zLv 155 153 154 16 2 2,zEC 157 156,O_ 152 152 157 158 152 152 7 158 7 7 2])) .skip)))) (zR [O9 120 17]))))))) .skip))))))))) (zS [M3 160 8 2 88,oW 162,zEA 7 161 7 3 162 161] (zS [bV 163 2 0,eF 165 8 2,lS 166 7 4,[o1 167 (.build Cu [(0,.t 164),(1,.t 165),(3,.t 166)])],jH 168 83 167,lS 169 7 4,jH 170 84 169,mX 4 168 4 168,mX 5 170 5 170,bN 6] .ret))))))))
def anu:aO:=⟨[.rd true Ct3,.rd true Je],(.tup [(true,7),(true,4),(false,1)] [.d,.d,.sl (.own none) [.d,.d,.d,.d],.d,.d,.sl (.own none) [.d,.d],.sl (.own none) [.d],.d,.d,.sl (.own none) [.d,.d],.sl (.own none) [.d],.d])⟩
def anv:aN:=aG [(81,Zb),(82,Dl),(83,Zf),(84,vU),(85,aew),(86,Zq),(87,x_),(88,EL)]
def acy (n:Nat):Zt7 × zO->Option ((Int × Int × List nZ × Int × Bool × List bG × List Int × Int × Bool × List bG × List Int × Int) × Unit):=aI n anv ant [Cu,jf] [.i .i64,.i .i64,.sl oU,.i .i64,.b,.sl [.i .i64,.i .i64],.sl [.i .i64],.i .i64,.b,.sl [.i .i64,.i .i64],.sl [.i .i64],.i .i64] [] [4,5,6] .no
def wL:=acy BIG
def anw:TSp:=⟨anu,[Cu,jf],[.i .i64,.i .i64,.sl oU,.i .i64,.b,.sl [.i .i64,.i .i64],.sl [.i .i64],.i .i64,.b,.sl [.i .i64,.i .i64],.sl [.i .i64],.i .i64],[],Ou.j .no,wL⟩
theorem aAh:zK anv 41 anu ant 171 .no [4,5,6]:=by show _=_;kernel_rfl
theorem awD:anw.Ok PG 41:=aV (ae ali (ae Ib (ae alj (ae Cy (ae ap8 (ae alm (ae Az (ae Ni (ax PG))))))))) aAh (by kernel_rfl)
theorem aAi (n) (a0) (a1):acy n (a0,a1) = ((Dt a0).bind fun r0=> bif !r0.1 then some true else (xZ (a0.2.1,a1)).bind fun r1=> bif !r1.1 then some true else bif !decide (a1.1=a0.2.2.2.1) then some (!decide (a1.1=(IntKind.wrap .i64 (a0.2.2.2.1+1)))) else some false).bind fun x2=> bif x2 then some (((0:Int),(0:Int),[],(0:Int),false,[],[],(0:Int),false,[],[],(1:Int)),()) else bif decide (a1.1=a0.2.2.2.1) then (yh a0).bind fun r3=> (kJ a0.2.2.2).bind fun r4=> some ((r3.1.1,r3.1.2.1,r3.1.2.2.1,r3.1.2.2.2.1,r3.1.2.2.2.2.1,r3.1.2.2.2.2.2.1,r3.1.2.2.2.2.2.2,r4.1.1,r4.1.2.1,r4.1.2.2.1,r4.1.2.2.2,(0:Int)),()) else ((bif decide (a1.2.1=1) then some true else some (decide (a1.2.1=4))).bind fun x5=> bif x5 then aU n (X:=mK × wG × Int) (B:=mK × wG) (fun self7 x6=> bif decide (x6.2.2<(a1.2.2.1.length:Int)) then (bnd a1.2.2.1.length x6.2.2 fun n8=> a1.2.2.1[n8]?.bind fun y9=> (wK (x6.1,y9)).bind fun r10=> (bif r10.1.2.2 then some (r10.1.1,r10.1.2.1) else some x6.1).bind fun x11=> (bif x6.2.1.2.1 then some (x6.2.1.1,r10.1.2.2,x6.2.1.2.2) else some (x6.2.1.1,false,x6.2.1.2.2)).bind fun x12=> some (x11,x12):Option (mK × wG)).bind fun x13=> self7 (x13.1,x13.2,IntKind.wrap .i64 (x6.2.2+1)) else some (x6.1,x6.2.1)) ((a0.2.1,a0.2.2.1),(a1.1,true,[],[]),(0:Int)) else bif decide (a1.2.1=2) then bnd a1.2.2.1.length (0:Int) fun n14=> a1.2.2.1[n14]?.bind fun y15=> (l7 ((a0.2.1,a0.2.2.1),y15)).bind fun r16=> (bif r16.1.2.2.2.2.2 then some (r16.1.1,r16.1.2.1) else some (a0.2.1,a0.2.2.1)).bind fun x17=> some (x17,(a1.1,r16.1.2.2.2.2.2,[],[])) else bif decide (a1.2.1=3) then (l6 (a0.2.1,a0.2.2.1)).bind fun r18=> aU n (X:=mK × wG × Int) (B:=mK × wG) (fun self20 x19=> bif decide (x19.2.2<(r18.1.2.length:Int)) then ((bnd r18.1.2.length x19.2.2 fun n21=> r18.1.2[n21]?.bind fun y22=> bif decide (y22.1=a1.2.2.2) then some true else bnd r18.1.2.length x19.2.2 fun n23=> r18.1.2[n23]?.bind fun y24=> some (decide (y24.2=a1.2.2.2))).bind fun x25=> bif x25 then bnd r18.1.2.length x19.2.2 fun n26=> r18.1.2[n26]?.bind fun y27=> (l7 (x19.1,y27)).bind fun r28=> bnd r18.1.2.length x19.2.2 fun n29=> r18.1.2[n29]?.bind fun y30=> bif decide (x19.2.1.2.2.1.length+[y30].length<=4294967296) then some ((r28.1.1,r28.1.2.1),(x19.2.1.1,x19.2.1.2.1,x19.2.1.2.2.1++[y30],x19.2.1.2.2.2)) else none else some (x19.1,x19.2.1):Option (mK × wG)).bind fun x31=> self20 (x31.1,x31.2,IntKind.wrap .i64 (x19.2.2+1)) else some (x19.1,x19.2.1)) ((a0.2.1,a0.2.2.1),(a1.1,true,[],[]),(0:Int)) else some ((a0.2.1,a0.2.2.1),(a1.1,true,[],[])):Option (mK × wG)).bind fun x32=> (sj x32.1).bind fun r33=> (yh (a0.1,x32.1.1,x32.1.2,x32.2.1,x32.2.2.1,x32.2.2.2.1,r33.1)).bind fun r34=> (kJ (x32.2.1,x32.2.2.1,x32.2.2.2.1,r33.1)).bind fun r35=> some ((r34.1.1,r34.1.2.1,r34.1.2.2.1,r34.1.2.2.2.1,r34.1.2.2.2.2.1,r34.1.2.2.2.2.2.1,r34.1.2.2.2.2.2.2,r35.1.1,r35.1.2.1,r35.1.2.2.1,r35.1.2.2.2,(0:Int)),()):=by kernel_rfl
def Uv:TC:=
 (zS [ek 4 1] (zS [dZ 6,dZ 7,ai 14 2,Tw 8 7,Jf 9 8,zBt 10 0 14 9,bV 11 4 0,eF 13 4 4,zEz,[o1 16 (.sli Ty8 [.t 15])],zBu 10 10 16 17 10 10 0 17,xF 18 6,zBv 0 17 10 0 14 19 17] (zR [dZ 20,[o1 21 (.build Ty7 [])],xF 22 20,zEA 0 21 0 5 23 21])))
def Uw:aO:=⟨[.mp [.d,.sl (.own none) [.d],.sl (.ro []) [.d,.d],.sl (.own none) jP,.sl (.own none) [.d],.d,.d,.d,.d,.d,.d,.d,.sl (.own none) [.d,.d],.d,.sl (.own none) aws],.rd true [.d,.d,.d,.d],.rd false [.d]],.u⟩
def Ux:aN:=aG []
def Im (n:Nat):rf × BZ × Int->Option ((Unit) × Int × List Int × List bG × List (List Int) × List Int × Int × Int × Int × Int × Int × Int × Int × List bG × Int × List VW):=aI n Ux Uv [gF,jq,[.i .i64]] [] gF [] (.mp 0)
def AC:=Im BIG
def Uy:TSp:=⟨Uw,[gF,jq,[.i .i64]],[],gF,Ou.j (.mp 0),AC⟩
theorem aln:zK Ux 77 Uw Uv 24 (.mp 0) []:=by show _=_;kernel_rfl
theorem aiB:Uy.Ok PG 77:=aV (ax PG) aln (by kernel_rfl)
theorem alo (n) (a0) (a1) (a2):Im n (a0,a1,a2) = bif decide (a0.2.2.2.2.2.2.2.2.2.2.2.2.2.2.length+([(a1.1,a1.1,a1.2.1,a1.2.2.1,a1.2.2.2,a2)]).length<=4294967296) then some ((),(a0.1,a0.2.1,a0.2.2.1,a0.2.2.2.1,a0.2.2.2.2.1,(0:Int),(0:Int),(0:Int),(0:Int),(0:Int),(0:Int),(0:Int),[],(0:Int),a0.2.2.2.2.2.2.2.2.2.2.2.2.2.2++([(a1.1,a1.1,a1.2.1,a1.2.2.1,a1.2.2.2,a2)]))) else none:=by kernel_rfl
def aex:TC:=
 (zS [zGc 6] (zS [XY 10,dh 10 7 10] (zQ (.join [⟨7,[.sl [.i .i64,.i .i64]],false⟩] 144115188075854720 none (zS [bN 8] (.block 0 (.loop [⟨7,[.sl [.i .i64,.i .i64]],false⟩,⟨8,[.i .i64],false⟩] 144115188075854720 (zQ (zS [Jl 11 8 1] (zC 14 .skip (.exit 0))) (zQ (.join [⟨7,[.sl [.i .i64,.i .i64]],false⟩] 144115188075725440 none (.block 1 (zS [Tz 17 1 8 2 2,zGb 9 1000000010,jW 9 9 20] (zQ (.join [⟨52,[.b],false⟩] 9007199252643840 none (zR [xK 21 9 0 0,mJ 24 23,F8 25 24,zEa 26 32 22 25,Gc 27 26 6 9 1 6,ik 30 0 6,X4 31 30 6,Jg 32 31 6,zDs 32 29 32 33 33 6,lT 27 33 34,ik 36 0 14,wF 37 14 9 0,Cv 39 36 38 14,O1 40 36 1 39 14,ik 41 2 14,zLu 42 40 41 14 35,ik 45 0 23,wF 46 23 9 1,Cv 48 45 47 23,O1 49 45 1 48 23,ik 50 2 23,zEg 51 49 50 23,Bl 44 51 52])) (zC 52 (zR [dh 7 53 7,eF 54 9 2,X_ 55 54 53 53 7]) .skip))))) (zR [gJ 15 8 8]))))))) (zS [Cx 7 57 7 6] .ret))))
def aey:aO:=⟨[.rd false jP,.rd false oV,.rd false [.d]],(.one false oV)⟩
def aez:aN:=aG [(32,d9)]
def Qa (n:Nat):List Int × (List bG) × Int->Option ((List bG) × Unit):=aI n aez aex [[.sl [.i .i64]],[.sl [.i .i64,.i .i64]],[.i .i64]] [.sl [.i .i64,.i .i64]] [] [6] .no
def Qb:=Qa BIG
def aeA:TSp:=⟨aey,[[.sl [.i .i64]],[.sl [.i .i64,.i .i64]],[.i .i64]],[.sl [.i .i64,.i .i64]],[],Ou.j .no,Qb⟩
theorem atM:zK aez 121 aey aex 58 .no [6]:=by show _=_;kernel_rfl
theorem aqa:aeA.Ok PG 121:=aV (ae dQ (ax PG)) atM (by kernel_rfl)
theorem atN (n) (a0) (a1) (a2):Qa n (a0,a1,a2) = (aU n (X:=(List bG) × Int) (B:=(List bG)) (fun self1 x0=> bif decide (x0.2<(a1.length:Int)) then (bnd a1.length x0.2 fun n2=> a1[n2]?.bind fun y3=> ((bD (y3.1,(0:Int),IntKind.wrap .i64 ((a0.length:Int)-1))).bind fun r4=> bif r4.1 then (bD (y3.2,(0:Int),IntKind.wrap .i64 ((a0.length:Int)-1))).bind fun r5=> bif r5.1 then bnd a0.length y3.1 fun n6=> a0[n6]?.bind fun y7=> bif decide (y7=a2) then bnd a0.length y3.2 fun n8=> a0[n8]?.bind fun y9=> some (decide (y9=a2)) else some false else some false else some false).bind fun x10=> bif x10 then bif decide (x0.1.length+[y3].length<=4294967296) then some (x0.1++[y3]) else none else some x0.1:Option ((List bG))).bind fun x11=> self1 (x11,IntKind.wrap .i64 (x0.2+1)) else some x0.1) ([],(0:Int))).bind fun x12=> some (x12,()):=by kernel_rfl
def Qc:TC:=
 (zS [ek 5 1,[o5 (.a (.t 3)) 7 3],bN 8] (zS [dZ 9,TG 10 9 0 4,ai 13 2,F8 14 13,Ya 15 12 14 0 4 1,xC 17 16,xJ 18 7 7 0 17] (zS [dZ 19,eF 20 5 4,ai 21 2,lS 22 7 4,zEE,xF 24 19,zGa] (zS [uh 8 2] .ret))))
def Qd:aO:=⟨[.mp [.d,.sl (.own none) [.d],.sl (.ro []) [.d,.d],.sl (.own none) jP,.sl (.own none) [.d],.d,.d,.d,.d,.d,.d,.d,.sl (.own none) [.d,.d],.d,.sl (.own none) aws],.rd true [.d,.d,.d,.d],.rd false [.d],.tk true Je],(.one false [.d])⟩
def Qe:aN:=aG []
def EQ (n:Nat):rf × BZ × Int × zO->Option ((Int) × Int × List Int × List bG × List (List Int) × List Int × Int × Int × Int × Int × Int × Int × Int × List bG × Int × List VW):=aI n Qe Qc [gF,jq,[.i .i64],jf] [.i .i64] gF [8] (.mp 0)
def ER:=EQ BIG
def Qf:TSp:=⟨Qd,[gF,jq,[.i .i64],jf],[.i .i64],gF,Ou.j (.mp 0),ER⟩
theorem aiC:zK Qe 79 Qd Qc 26 (.mp 0) [8]:=by show _=_;kernel_rfl
theorem afZ:Qf.Ok PG 79:=aV (ax PG) aiC (by kernel_rfl)
theorem aiD (n) (a0) (a1) (a2) (a3):EQ n (a0,a1,a2,a3) = bnd a0.2.2.2.2.1.length (IntKind.wrap .i64 (a2-1)) fun n0=> a0.2.2.2.2.1[n0]?.bind fun y1=> some ((2:Int),(a0.1,a0.2.1,a0.2.2.1,a0.2.2.2.1,a0.2.2.2.2.1,a1.1,a1.2.1,a1.2.2.1,a1.2.2.2,a2,IntKind.wrap .i64 (y1+1),a3.2.1,a3.2.2.1,a3.2.2.2,a0.2.2.2.2.2.2.2.2.2.2.2.2.2.2)):=by kernel_rfl
def Uz:TC:=
 (zS [ek 4 1,bN 6] (zS [dZ 11,Eo 12 11 0 2,ai 7 14] (zQ (.join [⟨0,gF,false⟩,⟨7,[.sl [.i .i64,.i .i64]],false⟩] 68719444417 (some [⟨6,[.i .i64],false⟩,⟨0,gF,false⟩]) (zS [bN 8] (.block 0 (.loop [⟨0,gF,false⟩,⟨7,[.sl [.i .i64,.i .i64]],false⟩,⟨8,[.i .i64],false⟩] 68719444417 (zQ (zS [Jl 15 8 2] (zC 18 .skip (.exit 0))) (zQ (.block 1 (zQ (zS [dC 21 7 2,ai 23 8,uJ 24 22 23 2 2,lQ 26 109 21 25] (zC 26 (zS [dZ 27,eF 28 4 4,zGe 77 0 28 3 29 0 29] (zS [uh 6 1] .ret)) .skip)) (zR [dC 30 7 2,ai 32 8,uJ 33 31 32 2 2,lQ 35 111 30 34,zHw 35 35 35]))) (zR [gJ 19 8 8]))))))) (zS [dZ 36,TG 37 36 0 1,Bu 40 4 2 4 3,wD 44 39 41,zBi 0 39 0 1 44 43] (zS [dZ 45,ai 49 7,TG 46 45 0 1,bV 50 4 3,zGg 52 121 48 49 51,dh 52 9 52] (zQ (.join [⟨7,[.sl [.i .i64,.i .i64]],false⟩] 36884480948164363392 none (zS [bN 10] (.block 2 (.loop [⟨7,[.sl [.i .i64,.i .i64]],false⟩,⟨10,[.i .i64],false⟩] 36884480948164363392 (zQ (zS [ai 53 10,ku 54 9,qZ 55 54 53] (zC 56 .skip (.exit 2))) (zQ (.block 3 (zR [ai 59 7,ku 60 9,ai 61 10,zLv 62 60 61 9 2 2,lQ 64 110 59 63,zHw 64 64 64])) (zR [O9 57 10]))))))) (zS [dZ 65,ai 66 7,xF 67 65,[o4 1 [0,44,48] (.store 0 [] 2 (.t 68) (.t 66))]] (zQ (zS [ku 69 9,mJ 70 69,yV 71 70 0] (zC 71 (zS [dZ 72,eF 73 4 4,zGe 77 0 73 1 74 0 74] (zS [uh 6 1] .ret)) .skip)) (zS [dZ 75,eF 76 4 4,bV 77 4 3,[⟨false,[],[],.det 2 (.copy 9),[79,9,54,69],(some 79),none⟩,⟨false,[],[],.det 3 (.build jf [(1,kO 4),(2,.t 79)]),[80,1000000002,79],(some 80),none⟩],zGp 0 76 78 80 81 0 80 81,ai 6 81] .ret)))))))))
def UA:aO:=⟨[.mp [.d,.sl (.own none) [.d],.sl (.ro []) [.d,.d],.sl (.own none) jP,.sl (.own none) [.d],.d,.d,.d,.d,.d,.d,.d,.sl (.own none) [.d,.d],.d,.sl (.own none) aws],.rd true [.d,.d,.d,.d],.rd false oV],(.one false [.d])⟩
def UB:aN:=aG [(109,BB),(77,Uy),(111,Gy),(121,aeA),(110,Cb),(79,Qf)]
def Io (n:Nat):rf × BZ × (List bG)->Option ((Int) × Int × List Int × List bG × List (List Int) × List Int × Int × Int × Int × Int × Int × Int × Int × List bG × Int × List VW):=aI n UB Uz [gF,jq,[.sl [.i .i64,.i .i64]]] [.i .i64] gF [6] (.mp 0)
def Ip:=Io BIG
def UC:TSp:=⟨UA,[gF,jq,[.sl [.i .i64,.i .i64]]],[.i .i64],gF,Ou.j (.mp 0),Ip⟩
theorem alp:zK UB 90 UA Uz 82 (.mp 0) [6]:=by show _=_;kernel_rfl
theorem aiE:UC.Ok PG 90:=aV (ae Dp (ae aiB (ae KX (ae aqa (ae Jt (ae afZ (ax PG))))))) alp (by kernel_rfl)
theorem alq (n) (a0) (a1) (a2):Io n (a0,a1,a2) = (aU n (X:=rf × (List bG) × Int) (B:=(rf × (List bG)) ⊕ Zt0) (fun self1 x0=> bif decide (x0.2.2<(a2.length:Int)) then bnd a2.length x0.2.2 fun n2=> a2[n2]?.bind fun y3=> (wI (x0.2.1,y3)).bind fun r4=> bif r4.1 then (AC (x0.1,a1,(3:Int))).bind fun r5=> some (Sum.inr ((1:Int),r5.2)) else bnd a2.length x0.2.2 fun n6=> a2[n6]?.bind fun y7=> (BC (x0.2.1,y7)).bind fun r8=> self1 (x0.1,r8.1,IntKind.wrap .i64 (x0.2.2+1)) else some (Sum.inl (x0.1,x0.2.1))) (a0,a0.2.2.1,(0:Int))).bind fun y=>match y with | .inl x9=> bnd x9.1.2.1.length a1.2.2.1 fun n10=> x9.1.2.1[n10]?.bind fun y11=> (Qb (x9.1.2.1.set n10 a1.2.2.2,x9.2,a1.2.2.2)).bind fun r12=> (aU n (X:=(List bG) × Int) (B:=(List bG)) (fun self14 x13=> bif decide (x13.2<(r12.1.length:Int)) then bnd r12.1.length x13.2 fun n15=> r12.1[n15]?.bind fun y16=> (vk (x13.1,y16)).bind fun r17=> self14 (r17.1,IntKind.wrap .i64 (x13.2+1)) else some x13.1) (x9.2,(0:Int))).bind fun x18=> bif decide ((r12.1.length:Int)=0) then (AC ((x9.1.1,x9.1.2.1.set n10 a1.2.2.2,x18,x9.1.2.2.2),a1,(1:Int))).bind fun r19=> some ((1:Int),r19.2) else (ER ((x9.1.1,x9.1.2.1.set n10 a1.2.2.2,x18,x9.1.2.2.2),a1,a1.2.2.2,((0:Int),(4:Int),r12.1,(0:Int)))).bind fun r20=> some (r20.1,r20.2) | .inr x9=> some (x9.1,x9.2):=by kernel_rfl
def anx:TC:=
 (zS [ek 3 0,ek 5 2,XW 6 1000000007,bN 7] (zS [M3 12 3 15 73,XW 8 1000000009,mX 8 13 8 13] (zQ (.seq (.join [⟨44,[.b],false⟩] 35184372072448 none (zR [eF 14 3 15,jH 15 74 14,Cw 16 15,pE 18 3 3 0 3,MV 20 5 4 3,F7 89 19 20 21 21 3,oh 22 21 3 17,MV 25 3 15 10,Jj 38 25 26 26 10,oh 27 26 10 24,iL 30 1 15,Bo 31 15,MW 32 31 15,OZ 33 3 9 32 15,MU 34 30 33 15,Jn 29 34 35,qi 37 22 5 0,Bo 39 22,MW 40 39 22,MW 41 40 22,OZ 42 3 10 41 22,MU 43 38 42 22,xD 36 43 44])) (zC 44 (zS [Bt 45 8 15 6 6 8,bN 7] .ret) .skip)) (zS [M4 46 3 5 9,zEq 9 1000000010,jW 9 9 47] (zS [xG 48 8 4,ai 50 1,F8 51 50,bV 52 5 0,wD 54 49 51,zBi 8 49 8 4 54 53] (zS [ai 57 1,xG 55 8 3,F8 58 57,zBc 59,bV 60 5 3,yU 59 61 62 59,wD 63 56 58,[o4 2 [8,62,48,54,63,56,55] (.store 8 [(3,1)] 0 (.t 63) (.t 62))]] (zQ (.seq (.join [⟨73,[.b],false⟩] 18871019187404871303168 none (zR [M0 64,Bn 66 9 1 65,yV 67 66 4,ai 68 67,mZ 69 4,Bq 70 69 4,rZ 71 9 6 70 4,[o2 72 (.data (.bin .eql) [.t 71,kD 3]) 4 true],Bl 68 72 73])) (zC 73 (zS [M4 74 9 0 4,bV 76 5 2,[⟨false,[],[3000008002],.call 2 90 [.t 8,.t 75,.t 77] (.mp 0),[78,8,8],(some 78),none⟩],ai 10 78] (zS [lS 79 8 15,jH 80 73 79,ai 81 10,xH 6 80 6 80] .ret)) .skip)) (zS [uh 11 1] (zQ (.join [⟨11,[.i .i64],false⟩] 2471044375292302033099425792 none (zQ (.join [⟨90,[.b],false⟩] 2471044375292302033099423744 none (zR [M0 82,Bn 84 9 1 83,zDe 85 84 4,Gc 86 85 4 5 1 4,zDD 89 88 4,Bl 86 89 90])) (zC 90 (zR [uh 11 2]) .skip))) (zS [M4 91 9 0 4,ai 93 11,zGi 8 92 93 94 8 94] (zS [Bt 95 8 15 6 6 8,uh 7 1] .ret)))))))))))
def anz:aO:=⟨[.rd true MR,.rd false [.d],.rd true OV],(.tup [(true,15),(false,1)] Ct0)⟩
def anA:aN:=aG [(73,KM),(74,Pz),(89,AB),(38,SG),(90,UC),(77,Gx)]
def acz (n:Nat):rf × Int × wG->Option (Zt1 × Unit):=aI n anA anx [gF,[.i .i64],lh] Ty0 [] [6,7] .no
def Jy:=acz BIG
def anB:TSp:=⟨anz,[gF,[.i .i64],lh],Ty0,[],Ou.j .no,Jy⟩
theorem aAj:zK anA 42 anz anx 96 .no [6,7]:=by show _=_;kernel_rfl
theorem awE:anB.Ok PG 42:=aV (ae TV (ae YI (ae EH (ae VY (ae aiE (ae KR (ax PG))))))) aAj (by kernel_rfl)
theorem aAk (n) (a0) (a1) (a2):acz n (a0,a1,a2) = (xO a0).bind fun r0=> ((Gw a0).bind fun r1=> bif !r1.1 then some true else (uN (a0.1,a2)).bind fun r2=> bif !r2.1 then some true else (DT a0).bind fun r3=> bif !r3.1 then some true else bif !decide (a1=a0.2.2.2.2.2.2.2.2.2.1) then some true else some (!decide (a2.1=a0.2.2.2.2.2.2.2.2.2.2.1))).bind fun x4=> bif x4 then some ((r0.1.1,r0.1.2.1,r0.1.2.2.1,r0.1.2.2.2.1,r0.1.2.2.2.2.1,r0.1.2.2.2.2.2.1,r0.1.2.2.2.2.2.2.1,r0.1.2.2.2.2.2.2.2.1,r0.1.2.2.2.2.2.2.2.2.1,r0.1.2.2.2.2.2.2.2.2.2.1,r0.1.2.2.2.2.2.2.2.2.2.2.1,r0.1.2.2.2.2.2.2.2.2.2.2.2.1,r0.1.2.2.2.2.2.2.2.2.2.2.2.2.1,r0.1.2.2.2.2.2.2.2.2.2.2.2.2.2.1,r0.1.2.2.2.2.2.2.2.2.2.2.2.2.2.2,(0:Int)),()) else bnd r0.1.2.2.2.2.1.length (IntKind.wrap .i64 (a1-1)) fun n5=> r0.1.2.2.2.2.1[n5]?.bind fun y6=> bif decide (0+a2.2.2.2.length<=4294967296) then bnd r0.1.2.2.2.1.length (IntKind.wrap .i64 (a1-1)) fun n7=> r0.1.2.2.2.1[n7]?.bind fun y8=> (bif decide (a0.2.2.2.2.2.2.1=4) then some (decide (a0.2.2.2.2.2.2.2.2.2.2.2.1=3)) else some false).bind fun x9=> bif x9 then (Ip ((r0.1.1,r0.1.2.1,r0.1.2.2.1,r0.1.2.2.2.1.set n7 ([]++a2.2.2.2),r0.1.2.2.2.2.1.set n5 a2.1,r0.1.2.2.2.2.2),(a0.2.2.2.2.2.1,a0.2.2.2.2.2.2.1,a0.2.2.2.2.2.2.2.1,a0.2.2.2.2.2.2.2.2.1),a2.2.2.1)).bind fun r10=> (xO r10.2).bind fun r11=> some ((r11.1.1,r11.1.2.1,r11.1.2.2.1,r11.1.2.2.2.1,r11.1.2.2.2.2.1,r11.1.2.2.2.2.2.1,r11.1.2.2.2.2.2.2.1,r11.1.2.2.2.2.2.2.2.1,r11.1.2.2.2.2.2.2.2.2.1,r11.1.2.2.2.2.2.2.2.2.2.1,r11.1.2.2.2.2.2.2.2.2.2.2.1,r11.1.2.2.2.2.2.2.2.2.2.2.2.1,r11.1.2.2.2.2.2.2.2.2.2.2.2.2.1,r11.1.2.2.2.2.2.2.2.2.2.2.2.2.2.1,r11.1.2.2.2.2.2.2.2.2.2.2.2.2.2.2,r10.1),()) else ((bif !decide (a0.2.2.2.2.2.2.1=4) then some !a2.2.1 else some false).bind fun x12=> bif x12 then some (2:Int) else some (1:Int)).bind fun x13=> (pF ((r0.1.1,r0.1.2.1,r0.1.2.2.1,r0.1.2.2.2.1.set n7 ([]++a2.2.2.2),r0.1.2.2.2.2.1.set n5 a2.1,r0.1.2.2.2.2.2),(a0.2.2.2.2.2.1,a0.2.2.2.2.2.2.1,a0.2.2.2.2.2.2.2.1,a0.2.2.2.2.2.2.2.2.1),x13)).bind fun r14=> some ((r14.2.1,r14.2.2.1,r14.2.2.2.1,r14.2.2.2.2.1,r14.2.2.2.2.2.1,r14.2.2.2.2.2.2.1,r14.2.2.2.2.2.2.2.1,r14.2.2.2.2.2.2.2.2.1,r14.2.2.2.2.2.2.2.2.2.1,r14.2.2.2.2.2.2.2.2.2.2.1,r14.2.2.2.2.2.2.2.2.2.2.2.1,r14.2.2.2.2.2.2.2.2.2.2.2.2.1,r14.2.2.2.2.2.2.2.2.2.2.2.2.2.1,r14.2.2.2.2.2.2.2.2.2.2.2.2.2.2.1,r14.2.2.2.2.2.2.2.2.2.2.2.2.2.2.2,(1:Int)),()) else none:=by kernel_rfl
def Zr:TC:=
 (zS [bN 6,bN 7,zHx 8] (zS [Yb 28 34 0 0,ai 9 29] (zS [dZ 30,zAD 0 3 31 0 31,zAe 32 1 31,ai 10 32] (zS [[o1 33 (.sli xA [])],dh 33 11 33] (zS [[o1 34 (.sli xA [])],zHy 34 34 12 34 34 12] (zS [uI 36 9,lQ 38 35 36 37,dh 38 35 38,zDa 35 15 39 35,mY 40 35 15,XW 13 1000000014,xH 13 39 13 39] (zS [[⟨false,[],[3000013012],.det 1 (.sli Cu []),[41,13],(some 41),none⟩],dh 41 15 41] (zQ (.join [⟨15,Ty5,false⟩] 144110790029836288 none (zS [uh 16 1] (.block 0 (.loop [⟨15,Ty5,false⟩,⟨16,[.i .i64],false⟩] 144110790029836288 (zQ (zS [dC 42 16 10,[o1 44 (.data (.bin .leq) [.t 42,.t 43])]] (zC 44 .skip (.exit 0))) (zQ (.block 1 (zS [dC 48 16 9,zLi 50 36 48 49 47 7,mY 52 47 7,zBD 17 1000000018,xH 17 51 17 51] (zR [dh 15 53 15,lS 54 17 7,[⟨false,[54],[],.det 2 (.sli Cu [.t 54]),[55,54,54,17],(some 55),none⟩],zDn 53 55 56 53 55 56,dh 56 15 56]))) (zR [O9 45 16]))))))) (zQ (.join [⟨0,jd,false⟩,⟨11,Tv,false⟩,⟨12,Tv,false⟩] 11150372599265311570767858992208992945092609 none (zS [bN 19] (.block 2 (.loop [⟨0,jd,false⟩,⟨13,gF,false⟩,⟨11,Tv,false⟩,⟨15,Ty5,false⟩,⟨12,Tv,false⟩,⟨19,[.i .i64],false⟩] 11150372599265311570767858992208992945092609 (zQ (zS [ai 57 19,dZ 58,ai 59 1,jH 60 37 59,zDc 61 60 2,XZ 31 61 62 62,zAe 63 2 62,mf 64 57 63] (zC 64 .skip (.exit 2))) (zQ (.join [⟨0,jd,false⟩,⟨13,gF,false⟩,⟨11,Tv,false⟩,⟨15,Ty5,false⟩,⟨12,Tv,false⟩] 11150372599265311570767711562371591344011265 none (.block 3 (zQ (zS [lS 67 13 15,jH 68 38 67,jr 69 68] (zC 69 (zS [dZ 70,ai 71 9,dC 72 10 19,xC 74 73,[⟨false,[],[],.call 2 39 [.t 0,.t 71,.t 72,.t 74] (.mp 0),[75,0],(some 75),none⟩],zDg 20 1000000021,jW 20 20 75] (zS [lS 77 13 15,eF 78 20 4,zLi 79 40 77 78 76 15,mY 81 76 15,XW 21 1000000022,xH 21 80 21 80] (zQ (.join [⟨13,gF,false⟩,⟨11,Tv,false⟩] 1267645915788252347398329739264 none (zQ (.join [⟨21,gF,false⟩,⟨93,[.b],false⟩] 19802204925287625881689260032 none (zR [zHi 3000021012 1 22 82 21 82,zDe 83 82 0,Gc 84 83 2 20 2 2,[o2 87 (.data (.bin .geq) [.t 86,kD 0]) 2 true],lT 84 87 88,F9 90 7 20 3 7,[o2 92 (.data (.bin .geq) [.t 91,kD 0]) 7 true],Bl 89 92 93])) (zC 93 (zS [lS 94 21 15,[⟨false,[94],[],.det 2 (.store 13 [] 0 .nil (.t 94)),[13,94,94,21,67,77],none,none⟩]] (zR [dh 11 95 11,eF 96 20 4,zHz 1 1 96 97,zHA 97 98 97,zDn 95 98 99 95 98 99,dh 99 11 99])) .skip))) (.exit 3)))) .skip)) (zS [M0 100,Bn 102 13 9 101,ai 23 102] (zS [M0 103,zDo 105 13 10 104 4,zDk 24 1000000025,jW 24 24 105] (zS [M5 107 15 23,[⟨false,[],[1000000026,1000000027],.det 1 (.data (.bin .sub) [.t 108,kD 1]),[109],(some 109),none⟩,⟨false,[],[1000000026,1000000027],.det 1 (.index 107 (.t 109)),[110],(some 110),none⟩,⟨false,[],[1000000026,1000000027],.det 1 (.load 15 [(0,7)] 0 (.t 110) 7 true),[111],(some 111),none⟩],zHr 1000000026 1000000027 24 4 112 112,zHs 1000000026 1000000027 41 111 112 113 113,zHt 1000000026 1000000027 113 106 113 106,zHB 0 7 114 114,zHB 7 4 115 115,zHu 1000000026 1000000027 106 11 1 116 116,[⟨false,[],[1000000027],.det 2 (.a (.c Cu [kV 0,kV 0,.slice none 0 0,kV 0,.bool false,.slice none 0 0,.slice none 0 0])),[25,1000000026],(some 25),none⟩,⟨false,[],[1000000026],.det 2 (.a (.c lh [kV 0,.bool false,.slice none 0 0,.slice none 0 0])),[26,1000000027],(some 26),none⟩],mX 25 114 25 114,xH 26 115 26 115] (zS [M5 117 15 23,F8 119 118,lS 120 25 7,wD 121 117 119,[⟨false,[120],[],.det 2 (.store 15 [(0,7)] 0 (.t 121) (.t 120)),[15,120,120,25,107,110,111,121,117],none,none⟩]] (zQ (.join [⟨12,Tv,false⟩] 1355812555700614190361883201485951471616 none (zS [dC 122 23 2,Bp 124 122 123] (zC 124 (zR [dh 12 125 12,eF 126 24 4,zHz 3 10 126 127,zHA 127 128 127,[⟨false,[128],[],.det 2 (.app (some 125) 128),[129,125,128],(some 129),none⟩],dh 129 12 129]) .skip))) (zS [lS 131 13 15,ai 132 23,lS 133 26 4,zGg 134 42 131 132 133,dh 134 130 134,zDa 130 15 135 130,mY 136 130 15,[o4 2 [13,135,67,131] (.store 13 [] 0 .nil (.t 135))]] (zR [[⟨false,[],[3000013012],.det 2 (.copy 11),[137,11,13,100,101,103,104],(some 137),none⟩],ai 138 23,lS 139 26 4,[⟨false,[139],[],.det 3 (.build xA [(0,kO 2),(5,.t 138),(6,.t 139)]),[140,1000000001,139,139,26,133],(some 140),none⟩],zHA 140 141 140,zDn 137 141 142 137 141 142,dh 142 11 142])))))))))) (zR [O9 65 19]))))))) (zQ (zS [ai 143 2,El 144 143 0] (zC 144 (zS [uI 145 9,dh 12 147 12,uI 6 145,dh 147 8 147] .ret) .skip)) (zS [uI 148 9,dh 11 150 11,uI 6 148,zHy 150 150 8 150 150 8] .ret)))))))))))
def Zt:aO:=⟨[.mp [.sl (.ro []) [.d],.d,.d],.rd false jP,.rd false [.d]],(.tup [(false,1),(false,1),(false,1)] [.d,.d,.sl (.own none) [.d,.d,.d,.d,.d,.d,.d,.d,.sl (.ro []) [.d,.d],.sl (.ro []) [.d],.d,.d,.sl (.ro []) [.d,.d],.d]])⟩
def Zu:aN:=aG [(34,anj),(31,qF),(35,Yj),(36,TU),(37,Yn),(38,SG),(39,adY),(40,anr),(41,anw),(42,anB)]
def Ll (n:Nat):(List Int × Int × Int) × List Int × Int->Option (Zt3 × List Int × Int × Int):=aI n Zu Zr [jd,[.sl [.i .u8]],[.i .i64]] Ty2 jd [6,7,8] (.mp 0)
def Lm:=Ll BIG
def Zv:TSp:=⟨Zt,[jd,[.sl [.i .u8]],[.i .i64]],Ty2,jd,Ou.j (.mp 0),Lm⟩
theorem aqb:zK Zu 16 Zt Zr 151 (.mp 0) [6,7,8]:=by show _=_;kernel_rfl
theorem alr:Zv.Ok PG 16:=aV (ae awt (ae si (ae ak0 (ae aij (ae ak3 (ae VY (ae apx (ae aww (ae awD (ae awE (ax PG))))))))))) aqb (by kernel_rfl)
theorem aqc (n) (a0) (a1) (a2):Ll n (a0,a1,a2) = (SF a0).bind fun r0=> (iC (r0.2,(3:Int))).bind fun r1=> (KH (r0.1,IntKind.wrap .i64 ((1:Int)+r1.1))).bind fun r2=> (aU n (X:=(List Zt6) × Int) (B:=(List Zt6)) (fun self4 x3=> bif decide (x3.2<=(IntKind.wrap .i64 ((1:Int)+r1.1))) then (H9 (x3.2,r0.1)).bind fun r5=> bif decide (x3.1.length+([(r5.1.1,r5.1.2.1,r5.1.2.2.1,r5.1.2.2.2.1,r5.1.2.2.2.2.1,r5.1.2.2.2.2.2.1,r5.1.2.2.2.2.2.2.1)]).length<=4294967296) then self4 (x3.1++([(r5.1.1,r5.1.2.1,r5.1.2.2.1,r5.1.2.2.2.1,r5.1.2.2.2.2.1,r5.1.2.2.2.2.2.1,r5.1.2.2.2.2.2.2.1)]),IntKind.wrap .i64 (x3.2+1)) else none else some x3.1) ([],(1:Int))).bind fun x6=> (aU n (X:=(List Int × Int × Int) × rf × (List TI) × (List Zt6) × (List TI) × Int) (B:=(List Int × Int × Int) × (List TI) × (List TI)) (fun self8 x7=> (KJ a1).bind fun r9=> bif decide ((2:Int)=0) then none else (iC (x7.1,IntKind.wrap .i64 (Int.tdiv r9.1 (2:Int)))).bind fun r10=> bif decide (x7.2.2.2.2.2<(IntKind.wrap .i64 ((2:Int)+r10.1))) then ((DT x7.2.1).bind fun r11=> bif !r11.1 then (Pk (r10.2,r0.1,IntKind.wrap .i64 ((1:Int)+r1.1),IntKind.wrap .i64 (x7.2.2.2.2.2+1))).bind fun r12=> (SH (x7.2.1,r12.1)).bind fun r13=> ((bif !decide (r13.1.2.2.2.2.2.2.2.2.2.2.2.2.2.2.2=0) then bif decide (0<=r12.1.2.2.1) then some ((r13.1.1,r13.1.2.1,r13.1.2.2.1,r13.1.2.2.2.1,r13.1.2.2.2.2.1,r13.1.2.2.2.2.2.1,r13.1.2.2.2.2.2.2.1,r13.1.2.2.2.2.2.2.2.1,r13.1.2.2.2.2.2.2.2.2.1,r13.1.2.2.2.2.2.2.2.2.2.1,r13.1.2.2.2.2.2.2.2.2.2.2.1,r13.1.2.2.2.2.2.2.2.2.2.2.2.1,r13.1.2.2.2.2.2.2.2.2.2.2.2.2.1,r13.1.2.2.2.2.2.2.2.2.2.2.2.2.2.1,r13.1.2.2.2.2.2.2.2.2.2.2.2.2.2.2.1),decide (0<=r12.1.2.2.2)) else some ((r13.1.1,r13.1.2.1,r13.1.2.2.1,r13.1.2.2.2.1,r13.1.2.2.2.2.1,r13.1.2.2.2.2.2.1,r13.1.2.2.2.2.2.2.1,r13.1.2.2.2.2.2.2.2.1,r13.1.2.2.2.2.2.2.2.2.1,r13.1.2.2.2.2.2.2.2.2.2.1,r13.1.2.2.2.2.2.2.2.2.2.2.1,r13.1.2.2.2.2.2.2.2.2.2.2.2.1,r13.1.2.2.2.2.2.2.2.2.2.2.2.2.1,r13.1.2.2.2.2.2.2.2.2.2.2.2.2.2.1,r13.1.2.2.2.2.2.2.2.2.2.2.2.2.2.2.1),false) else some ((r13.1.1,r13.1.2.1,r13.1.2.2.1,r13.1.2.2.2.1,r13.1.2.2.2.2.1,r13.1.2.2.2.2.2.1,r13.1.2.2.2.2.2.2.1,r13.1.2.2.2.2.2.2.2.1,r13.1.2.2.2.2.2.2.2.2.1,r13.1.2.2.2.2.2.2.2.2.2.1,r13.1.2.2.2.2.2.2.2.2.2.2.1,r13.1.2.2.2.2.2.2.2.2.2.2.2.1,r13.1.2.2.2.2.2.2.2.2.2.2.2.2.1,r13.1.2.2.2.2.2.2.2.2.2.2.2.2.2.1,r13.1.2.2.2.2.2.2.2.2.2.2.2.2.2.2.1),false)).bind fun x14=> bif x14.2 then bif decide (x7.2.2.1.length+([((1:Int),r12.1.1,r12.1.2.1,r12.1.2.2.1,r12.1.2.2.2,(0:Int),(0:Int),false,([]:List bG),([]:List Int),(0:Int),(0:Int),([]:List bG),(0:Int))]).length<=4294967296) then some (x14.1,x7.2.2.1++([((1:Int),r12.1.1,r12.1.2.1,r12.1.2.2.1,r12.1.2.2.2,(0:Int),(0:Int),false,[],[],(0:Int),(0:Int),[],(0:Int))])) else none else some (x7.2.1,x7.2.2.1):Option (rf × (List TI))).bind fun x15=> some (r12.2,x15.1,x15.2,x7.2.2.2.1,x7.2.2.2.2.1) else bnd x7.2.2.2.1.length (IntKind.wrap .i64 (x7.2.1.2.2.2.2.2.2.2.2.2.1-1)) fun n16=> x7.2.2.2.1[n16]?.bind fun y17=> (wL (y17,(x7.2.1.2.2.2.2.2.2.2.2.2.2.1,x7.2.1.2.2.2.2.2.2.2.2.2.2.2.1,x7.2.1.2.2.2.2.2.2.2.2.2.2.2.2.1,x7.2.1.2.2.2.2.2.2.2.2.2.2.2.2.2.1))).bind fun r18=> bnd x7.2.2.2.1.length (IntKind.wrap .i64 (x7.2.1.2.2.2.2.2.2.2.2.2.1-1)) fun n19=> x7.2.2.2.1[n19]?.bind fun y20=> (bif decide (x7.2.1.2.2.2.2.2.2.2.2.2.1=a2) then bif decide (x7.2.2.2.2.1.length+([((3:Int),(0:Int),(0:Int),(0:Int),(0:Int),(0:Int),(0:Int),false,([]:List bG),([]:List Int),x7.2.1.2.2.2.2.2.2.2.2.2.2.1,x7.2.1.2.2.2.2.2.2.2.2.2.2.2.1,x7.2.1.2.2.2.2.2.2.2.2.2.2.2.2.1,x7.2.1.2.2.2.2.2.2.2.2.2.2.2.2.2.1)]).length<=4294967296) then some (x7.2.2.2.2.1++([((3:Int),(0:Int),(0:Int),(0:Int),(0:Int),(0:Int),(0:Int),false,[],[],x7.2.1.2.2.2.2.2.2.2.2.2.2.1,x7.2.1.2.2.2.2.2.2.2.2.2.2.2.1,x7.2.1.2.2.2.2.2.2.2.2.2.2.2.2.1,x7.2.1.2.2.2.2.2.2.2.2.2.2.2.2.2.1)])) else none else some x7.2.2.2.2.1:Option ((List TI))).bind fun x21=> (Jy (x7.2.1,x7.2.1.2.2.2.2.2.2.2.2.2.1,(r18.1.2.2.2.2.2.2.2.1,r18.1.2.2.2.2.2.2.2.2.1,r18.1.2.2.2.2.2.2.2.2.2.1,r18.1.2.2.2.2.2.2.2.2.2.2.1))).bind fun r22=> bif decide (x7.2.2.1.length+([((2:Int),(0:Int),(0:Int),(0:Int),(0:Int),x7.2.1.2.2.2.2.2.2.2.2.2.1,r18.1.2.2.2.2.2.2.2.1,r18.1.2.2.2.2.2.2.2.2.1,r18.1.2.2.2.2.2.2.2.2.2.1,r18.1.2.2.2.2.2.2.2.2.2.2.1,(0:Int),(0:Int),([]:List bG),(0:Int))]).length<=4294967296) then some (r10.2,(r22.1.1,r22.1.2.1,r22.1.2.2.1,r22.1.2.2.2.1,r22.1.2.2.2.2.1,r22.1.2.2.2.2.2.1,r22.1.2.2.2.2.2.2.1,r22.1.2.2.2.2.2.2.2.1,r22.1.2.2.2.2.2.2.2.2.1,r22.1.2.2.2.2.2.2.2.2.2.1,r22.1.2.2.2.2.2.2.2.2.2.2.1,r22.1.2.2.2.2.2.2.2.2.2.2.2.1,r22.1.2.2.2.2.2.2.2.2.2.2.2.2.1,r22.1.2.2.2.2.2.2.2.2.2.2.2.2.2.1,r22.1.2.2.2.2.2.2.2.2.2.2.2.2.2.2.1),x7.2.2.1++([((2:Int),(0:Int),(0:Int),(0:Int),(0:Int),x7.2.1.2.2.2.2.2.2.2.2.2.1,r18.1.2.2.2.2.2.2.2.1,r18.1.2.2.2.2.2.2.2.2.1,r18.1.2.2.2.2.2.2.2.2.2.1,r18.1.2.2.2.2.2.2.2.2.2.2.1,(0:Int),(0:Int),[],(0:Int))]),x7.2.2.2.1.set n19 (r18.1.1,r18.1.2.1,r18.1.2.2.1,r18.1.2.2.2.1,r18.1.2.2.2.2.1,r18.1.2.2.2.2.2.1,r18.1.2.2.2.2.2.2.1),x21) else none:Option ((List Int × Int × Int) × rf × (List TI) × (List Zt6) × (List TI))).bind fun x23=> self8 (x23.1,x23.2.1,x23.2.2.1,x23.2.2.2.1,x23.2.2.2.2,IntKind.wrap .i64 (x7.2.2.2.2.2+1)) else some (r10.2,x7.2.2.1,x7.2.2.2.2.1)) (r1.2,(r2.1.1,r2.1.2.1,r2.1.2.2.1,r2.1.2.2.2.1,r2.1.2.2.2.2.1,r2.1.2.2.2.2.2.1,r2.1.2.2.2.2.2.2.1,r2.1.2.2.2.2.2.2.2.1,r2.1.2.2.2.2.2.2.2.2.1,r2.1.2.2.2.2.2.2.2.2.2.1,r2.1.2.2.2.2.2.2.2.2.2.2.1,r2.1.2.2.2.2.2.2.2.2.2.2.2.1,r2.1.2.2.2.2.2.2.2.2.2.2.2.2.1,r2.1.2.2.2.2.2.2.2.2.2.2.2.2.2.1,r2.1.2.2.2.2.2.2.2.2.2.2.2.2.2.2.1),[],x6,[],(0:Int))).bind fun x24=> bif decide (0<a2) then some ((r0.1,IntKind.wrap .i64 ((1:Int)+r1.1),x24.2.2),x24.1) else some ((r0.1,IntKind.wrap .i64 ((1:Int)+r1.1),x24.2.1),x24.1):=by kernel_rfl
def Jz:TC:=
 (zS [bN 2,bN 3,zHx 4] (zS [ai 5 0,jH 6 17 5,ai 7 0,zGe 16 6 7 0 8 6 8,mY 9 8 0,mY 10 8 1,[o5 (.ext 8 2 1) 11 8],uI 2 9,dh 11 4 11] .ret))
def JA:aO:=⟨[.rd false jP],(.tup [(false,1),(false,1),(false,1)] [.d,.d,.sl (.own none) [.d,.d,.d,.d,.d,.d,.d,.d,.sl (.ro [0]) [.d,.d],.sl (.ro [0]) [.d],.d,.d,.sl (.ro [0]) [.d,.d],.d]])⟩
def JB:aN:=aG [(17,Pd),(16,Zv)]
def zY (n:Nat):List (Int)->Option (Zt3 × Unit):=aI n JB Jz [[.sl [.i .u8]]] Ty2 [] [2,3,4] .no
def zZ:=zY BIG
def JC:TSp:=⟨JA,[[.sl [.i .u8]]],Ty2,[],Ou.j .no,zZ⟩
theorem acA:zK JB 5 JA Jz 12 .no [2,3,4]:=by show _=_;kernel_rfl
theorem Zw:JC.Ok PG 5:=aV (ae Yc (ae alr (ax PG))) acA (by kernel_rfl)
theorem acB (n) (a0):zY n a0 = (Bw a0).bind fun r0=> (Lm (r0.1,a0,(0:Int))).bind fun r1=> some (r1.1,()):=by kernel_rfl
def ES:TC:=
 (zS [nO 1 0] (zS [eF 3 1 4,[o1 4 (.build jf [])],lQ 5 92 3 4,ai 2 5] .ret))
def ET:aO:=⟨[.rd true Je],(.one false [.d])⟩
def EU:aN:=aG [(92,xW)]
def vV (n:Nat):zO->Option ((Bool) × Unit):=aI n EU ES [jf] [.b] [] [2] .no
def p9:=vV BIG
def EW:TSp:=⟨ET,[jf],[.b],[],Ou.j .no,p9⟩
theorem V_:zK EU 44 ET ES 6 .no [2]:=by show _=_;kernel_rfl
theorem Ti:EW.Ok PG 44:=aV (ae Ev (ax PG)) V_ (by kernel_rfl)
theorem We (n) (a0):vV n a0 = (lq (a0,((0:Int),(0:Int),[],(0:Int)))).bind fun r0=> some (r0.1,()):=by kernel_rfl
def aeB:TC:=
 (zS [[o1 2 (.lit [.s] [.string ⟨#[]⟩])]] (zS [[o1 4 (.sli [.i .u8] [])],dh 4 3 4] (zQ (.join [⟨3,[.sl [.i .u8]],false⟩,⟨0,[.i .i64],false⟩] 65513 none (.block 0 (.loop [⟨3,[.sl [.i .u8]],false⟩,⟨0,[.i .i64],false⟩] 65513 (zQ (zS [ai 5 0,El 6 5 127] (zC 6 .skip (.exit 0))) (.block 1 (zS [dh 3 7 3,ai 8 0,zHC 9 8,zAp 10 9 128,yX 11 10,zHE 12 11,F_ 7 12 13 7 3] (zR [ai 14 0,zDc 15 14 128,ai 0 15]))))))) (zS [dh 3 16 3,ai 17 0,yX 18 17,zHE 19 18,yU 16 19 20 16,X5 21 20,ai 2 21] .ret))))
def aeC:aO:=⟨[.rd false [.d]],(.one false [.d])⟩
def aeD:aN:=aG []
def Qg (n:Nat):Int->Option ((ByteArray) × Unit):=aI n aeD aeB [[.i .i64]] [.s] [] [2] .no
def ji:=Qg BIG
def wM:TSp:=⟨aeC,[[.i .i64]],[.s],[],Ou.j .no,ji⟩
theorem atO:zK aeD 45 aeC aeB 22 .no [2]:=by show _=_;kernel_rfl
theorem yj:wM.Ok PG 45:=aV (ax PG) atO (by kernel_rfl)
theorem atP (n) (a0):Qg n a0 = (aU n (X:=(List Int) × Int) (B:=(List Int) × Int) (fun self1 x0=> bif decide (127<x0.2) then bif decide ((128:Int)=0) then none else bif decide (x0.1.length+([IntKind.wrap .u8 (IntKind.wrap .i64 ((Int.tmod x0.2 (128:Int))+128))]).length<=4294967296) then bif decide ((128:Int)=0) then none else self1 (x0.1++([IntKind.wrap .u8 (IntKind.wrap .i64 ((Int.tmod x0.2 (128:Int))+128))]),IntKind.wrap .i64 (Int.tdiv x0.2 (128:Int))) else none else some (x0.1,x0.2)) ([],a0)).bind fun x2=> bif decide (x2.1.length+([IntKind.wrap .u8 (x2.2)]).length<=4294967296) then some (dW (x2.1++([IntKind.wrap .u8 (x2.2)])),()) else none:=by kernel_rfl
def Zx:TC:=
 (zS [[o1 2 (.lit [.s] [.string ⟨#[]⟩])]] (zQ (zS [ai 3 0] (zC 3 (zS [[o1 2 (.lit [.s] [.string ⟨#[1]⟩])]] .ret) .skip)) (zS [[o1 2 (.lit [.s] [.string ⟨#[0]⟩])]] .ret)))
def Zy:aO:=⟨[.rd false [.d]],(.one false [.d])⟩
def Zz:aN:=aG []
def Lp (n:Nat):Bool->Option ((ByteArray) × Unit):=aI n Zz Zx [[.b]] [.s] [] [2] .no
def Lr:=Lp BIG
def ZB:TSp:=⟨Zy,[[.b]],[.s],[],Ou.j .no,Lr⟩
theorem aqd:zK Zz 93 Zy Zx 4 .no [2]:=by show _=_;kernel_rfl
theorem als:ZB.Ok PG 93:=aV (ax PG) aqd (by kernel_rfl)
theorem aqe (n) (a0):Lp n a0 = bif a0 then some ((ByteArray.mk #[1]),()) else some ((ByteArray.mk #[0]),()):=by kernel_rfl
def ZC:TC:=
 (zS [[o1 2 (.lit [.s] [.string ⟨#[]⟩])]] (zS [ai 3 0,yX 4 3,zHE 5 4,X5 6 5,ai 2 6] .ret))
def ZE:aO:=⟨[.rd false [.d]],(.one false [.d])⟩
def ZF:aN:=aG []
def Ls (n:Nat):Int->Option ((ByteArray) × Unit):=aI n ZF ZC [[.i .i64]] [.s] [] [2] .no
def tL:=Ls BIG
def Dv:TSp:=⟨ZE,[[.i .i64]],[.s],[],Ou.j .no,tL⟩
theorem aqf:zK ZF 95 ZE ZC 7 .no [2]:=by show _=_;kernel_rfl
theorem Iq:Dv.Ok PG 95:=aV (ax PG) aqf (by kernel_rfl)
theorem aqg (n) (a0):Ls n a0 = some (dW ([IntKind.wrap .u8 (a0)]),()):=by kernel_rfl
def UD:TC:=
 (zS [[o1 2 (.lit [.s] [.string ⟨#[]⟩])]] (zS [Gd 5 0 5,jH 7 45 6,ai 3 7] (zQ (.join [⟨3,[.s],false⟩] 536870680 none (zS [bN 4] (.block 0 (.loop [⟨3,[.s],false⟩,⟨4,[.i .i64],false⟩] 536870680 (zQ (zS [dC 8 4 0,qZ 10 9 8] (zC 11 .skip (.exit 0))) (zQ (.block 1 (zR [dC 14 3 0,ai 16 4,dC 22 0 4,Jk 17 15 16 2,zKg 20 95 19 14,O5 24 22 23 2 1,zKg 27 95 26 21,ai 3 28])) (zR [gJ 12 4 4]))))))) (zS [yZ 29 3 2] .ret))))
def UE:aO:=⟨[.rd false oV],(.one false [.d])⟩
def UF:aN:=aG [(45,wM),(95,Dv)]
def Ir (n:Nat):(List bG)->Option ((ByteArray) × Unit):=aI n UF UD [[.sl [.i .i64,.i .i64]]] [.s] [] [2] .no
def AJ:=Ir BIG
def Iu:TSp:=⟨UE,[[.sl [.i .i64,.i .i64]]],[.s],[],Ou.j .no,AJ⟩
theorem alu:zK UF 94 UE UD 30 .no [2]:=by show _=_;kernel_rfl
theorem Qh:Iu.Ok PG 94:=aV (ae yj (ae Iq (ax PG))) alu (by kernel_rfl)
theorem alx (n) (a0):Ir n a0 = (ji (a0.length:Int)).bind fun r0=> (aU n (X:=ByteArray × Int) (B:=ByteArray) (fun self2 x1=> bif decide (x1.2<(a0.length:Int)) then bnd a0.length x1.2 fun n3=> a0[n3]?.bind fun y4=> (tL y4.1).bind fun r5=> bif decide (x1.1.size+r5.1.size<=4611686018427387904) then bnd a0.length x1.2 fun n6=> a0[n6]?.bind fun y7=> (tL y7.2).bind fun r8=> bif decide ((x1.1++r5.1).size+r8.1.size<=4611686018427387904) then self2 ((x1.1++r5.1)++r8.1,IntKind.wrap .i64 (x1.2+1)) else none else none else some x1.1) (r0.1,(0:Int))).bind fun x9=> some (x9,()):=by kernel_rfl
def Nj:TC:=
 (zS [ek 3 1,[o1 4 (.lit [.s] [.string ⟨#[]⟩])],bH 5] (zQ (zS [ai 8 0,eF 9 3 4,lQ 10 89 8 9,jr 11 10] (zC 11 (zS [[o1 4 (.lit [.s] [.string ⟨#[]⟩])],bH 5] .ret) .skip)) (zS [bV 12 3 0,jH 14 45 13,TH 15 3 1 93 14,TH 19 3 2 94 18,ai 6 22] (zQ (.join [⟨6,[.s],false⟩] 68711088320 none (zS [bN 7] (.block 0 (.loop [⟨6,[.s],false⟩,⟨7,[.i .i64],false⟩] 68711088320 (zQ (zS [MZ 23 7 0] (zC 25 .skip (.exit 0))) (zQ (.block 1 (zR [Ga 28 6 3 3,ai 31 7,ui 32 30 31 1,zKg 34 95 33 28,ai 6 35])) (zR [gJ 26 7 7]))))))) (zS [yZ 36 6 4,ic 5] .ret)))))
def Nk:aO:=⟨[.rd false [.d],.rd true OV],(.tup [(false,1),(false,1)] [.d,.d])⟩
def Nl:aN:=aG [(89,AB),(45,wM),(93,ZB),(94,Iu),(95,Dv)]
def Cc (n:Nat):Int × wG->Option ((ByteArray × Bool) × Unit):=aI n Nl Nj [[.i .i64],lh] [.s,.b] [] [4,5] .no
def Ce:=Cc BIG
def Nn:TSp:=⟨Nk,[[.i .i64],lh],[.s,.b],[],Ou.j .no,Ce⟩
theorem af0:zK Nl 46 Nk Nj 37 .no [4,5]:=by show _=_;kernel_rfl
theorem acC:Nn.Ok PG 46:=aV (ae EH (ae yj (ae als (ae Qh (ae Iq (ax PG)))))) af0 (by kernel_rfl)
theorem af1 (n) (a0) (a1):Cc n (a0,a1) = (uN (a0,a1)).bind fun r0=> bif !r0.1 then some (((ByteArray.mk #[]),false),()) else (ji a1.1).bind fun r1=> (Lr a1.2.1).bind fun r2=> bif decide (r1.1.size+r2.1.size<=4611686018427387904) then (AJ a1.2.2.1).bind fun r3=> bif decide ((r1.1++r2.1).size+r3.1.size<=4611686018427387904) then (aU n (X:=ByteArray × Int) (B:=ByteArray) (fun self5 x4=> bif decide (x4.2<a0) then bnd a1.2.2.2.length x4.2 fun n6=> a1.2.2.2[n6]?.bind fun y7=> (tL y7).bind fun r8=> bif decide (x4.1.size+r8.1.size<=4611686018427387904) then self5 (x4.1++r8.1,IntKind.wrap .i64 (x4.2+1)) else none else some x4.1) ((r1.1++r2.1)++r3.1,(0:Int))).bind fun x9=> some ((x9,true),()) else none else none:=by kernel_rfl
def JD:TC:=
 (zS [nO 1 0] (zS [eF 3 1 4,[o1 4 (.build jq [])],zEh 5 3 4,ai 2 5] .ret))
def JE:aO:=⟨[.rd true [.d,.d,.d,.d]],(.one false [.d])⟩
def JF:aN:=aG []
def z_ (n:Nat):BZ->Option ((Bool) × Unit):=aI n JF JD [jq] [.b] [] [2] .no
def tN:=z_ BIG
def JG:TSp:=⟨JE,[jq],[.b],[],Ou.j .no,tN⟩
theorem acD:zK JF 47 JE JD 6 .no [2]:=by show _=_;kernel_rfl
theorem ZG:JG.Ok PG 47:=aV (ax PG) acD (by kernel_rfl)
theorem acE (n) (a0):z_ n a0 = some ((decide (a0.1=0)&&(decide (a0.2.1=0)&&(decide (a0.2.2.1=0)&&(decide (a0.2.2.2=0)&&true)))),()):=by kernel_rfl
def Qi:TC:=
 (zS [ek 3 1,[o1 4 (.lit [.s] [.string ⟨#[]⟩])],bH 5] (zQ (zS [ai 6 0,eF 7 3 4,lQ 8 82 6 7,jr 9 8] (zC 9 (zS [[o1 4 (.lit [.s] [.string ⟨#[]⟩])],bH 5] .ret) .skip)) (zS [bV 10 3 0,jH 12 45 11,TH 13 3 1 95 12,TH 17 3 3 45 16,TH 21 3 2 94 20,ai 4 24,ic 5] .ret)))
def Qj:aO:=⟨[.rd false [.d],.rd true Je],(.tup [(false,1),(false,1)] [.d,.d])⟩
def Qk:aN:=aG [(82,Dl),(45,wM),(95,Dv),(94,Iu)]
def EX (n:Nat):Int × zO->Option ((ByteArray × Bool) × Unit):=aI n Qk Qi [[.i .i64],jf] [.s,.b] [] [4,5] .no
def EY:=EX BIG
def Ql:TSp:=⟨Qj,[[.i .i64],jf],[.s,.b],[],Ou.j .no,EY⟩
theorem aiF:zK Qk 48 Qj Qi 25 .no [4,5]:=by show _=_;kernel_rfl
theorem af2:Ql.Ok PG 48:=aV (ae Ib (ae yj (ae Iq (ae Qh (ax PG))))) aiF (by kernel_rfl)
theorem aiG (n) (a0) (a1):EX n (a0,a1) = (xZ (a0,a1)).bind fun r0=> bif !r0.1 then some (((ByteArray.mk #[]),false),()) else (ji a1.1).bind fun r1=> (tL a1.2.1).bind fun r2=> bif decide (r1.1.size+r2.1.size<=4611686018427387904) then (ji a1.2.2.2).bind fun r3=> bif decide ((r1.1++r2.1).size+r3.1.size<=4611686018427387904) then (AJ a1.2.2.1).bind fun r4=> bif decide (((r1.1++r2.1)++r3.1).size+r4.1.size<=4611686018427387904) then some ((((r1.1++r2.1)++r3.1)++r4.1,true),()) else none else none else none:=by kernel_rfl
def ZH:TC:=
 (zS [ek 3 1,[o1 4 (.lit [.s] [.string ⟨#[]⟩])],bH 5] (zQ (zS [bV 11 3 0] (.block 0 (zS [TD 14 12 1] (zC 13 (zS [M4 15 3 1 4,zDg 6 1000000007,jW 6 6 16] (zQ (.seq (.join [⟨55,[.b],false⟩] 72057594037796864 none (zR [bV 17 3 5,zDe 19 18 0,ai 20 19,Bo 21 3,zHb 22 3 6 21 4 3,Jj 43 22 23 23 3,oh 24 23 3 20,Bo 27 9,zHb 28 3 10 27 4 9,Jj 44 28 29 29 9,oh 30 29 9 26,qi 33 15 6 0,zEx 32 34 0 100000 35 35 15,oh 36 35 15 32,qi 39 21 6 1,zEx 32 40 0 100000 41 41 21,oh 42 41 21 38,qi 45 27 6 2,zEx 32 46 0 100000 47 47 27,oh 48 47 27 44,qi 51 33 6 3,zEx 32 52 0 100000 53 53 33,uH 54 53 33 50])) (zC 55 (zS [[o1 4 (.lit [.s] [.string ⟨#[]⟩])],bH 5] .ret) .skip)) (zS [bV 56 6 0,jH 58 45 57,[o1 59 (.data (.bin .add) [.c (.string ⟨#[1]⟩),.t 58])],TH 60 6 1 45 59,TH 64 6 2 45 63,TH 68 6 3 45 67,ai 4 71,ic 5] .ret))) (zS [xI 73 12 2 72] (zC 72 (zS [ai 75 0,M4 76 3 6 4,qj 78 46 75 77 74,Jm 79 74 0 1 7] (zQ (.seq (.join [⟨100,[.b],false⟩] 2535298782604819573735056998400 none (zR [ai 81 8,Cw 82 81,Bo 84 2,zHb 85 3 1 84 4 2,Jj 47 85 86 86 2,oh 87 86 2 83,Bo 90 8,zHb 91 3 10 90 4 8,Jj 44 91 92 92 8,oh 93 92 8 89,qi 96 14 3 5,zEx 32 97 0 100000 98 98 14,uH 99 98 14 95])) (zC 100 (zS [[o1 4 (.lit [.s] [.string ⟨#[]⟩])],bH 5] .ret) .skip)) (zS [bV 101 3 5,jH 103 45 102,[o1 104 (.data (.bin .add) [.c (.string ⟨#[2]⟩),.t 103])],ai 105 7,r_ 106 105,zKg 107 45 106 104,X8 109 7 108,ai 4 110,ic 5] .ret))) (zS [xI 112 12 3 111] (zC 111 (zS [ai 114 0,M4 115 3 10 4,qj 117 48 114 116 113,Jm 118 113 0 1 9] (zQ (.seq (.join [⟨138,[.b],false⟩] 696896958226086188257118292213201016717312 none (zR [ai 120 10,Cw 121 120,Bo 123 2,zHb 124 3 1 123 4 2,Jj 47 124 125 125 2,oh 126 125 2 122,Bo 129 8,zHb 130 3 6 129 4 8,Jj 43 130 131 131 8,oh 132 131 8 128,qi 135 14 3 5,zIc 137 136 0 14,xD 134 137 138])) (zC 138 (zS [[o1 4 (.lit [.s] [.string ⟨#[]⟩])],bH 5] .ret) .skip)) (zS [ai 139 9,r_ 140 139,jH 141 45 140,[o1 142 (.data (.bin .add) [.c (.string ⟨#[3]⟩),.t 141])],X8 143 9 142,ai 4 144,ic 5] .ret))) .skip)))))))) (zS [[o1 4 (.lit [.s] [.string ⟨#[]⟩])],bH 5] .ret)))
def ZI:aO:=⟨[.rd false [.d],.rd true Ct2],(.tup [(false,1),(false,1)] [.d,.d])⟩
def ZJ:aN:=aG [(43,Ik),(44,EW),(32,d9),(45,wM),(46,Nn),(47,JG),(48,Ql)]
def Lt (n:Nat):Int × Zt5->Option ((ByteArray × Bool) × Unit):=aI n ZJ ZH [[.i .i64],xA] [.s,.b] [] [4,5] .no
def Lu:=Lt BIG
def ZK:TSp:=⟨ZI,[[.i .i64],xA],[.s,.b],[],Ou.j .no,Lu⟩
theorem aqh:zK ZJ 18 ZI ZH 145 .no [4,5]:=by show _=_;kernel_rfl
theorem aly:ZK.Ok PG 18:=aV (ae PU (ae Ti (ae dQ (ae yj (ae acC (ae ZG (ae af2 (ax PG)))))))) aqh (by kernel_rfl)
theorem aqi (n) (a0) (a1):Lt n (a0,a1) = bif decide (a1.1=1) then (bif !decide (a1.2.2.2.2.2.1=0) then some true else (uM (a1.2.2.2.2.2.2.1,a1.2.2.2.2.2.2.2.1,a1.2.2.2.2.2.2.2.2.1,a1.2.2.2.2.2.2.2.2.2.1)).bind fun r0=> bif !r0.1 then some true else (p9 a1.2.2.2.2.2.2.2.2.2.2).bind fun r1=> bif !r1.1 then some true else (bD (a1.2.1,(0:Int),(100000:Int))).bind fun r2=> bif !r2.1 then some true else (bD (a1.2.2.1,(0:Int),(100000:Int))).bind fun r3=> bif !r3.1 then some true else (bD (a1.2.2.2.1,(0:Int),(100000:Int))).bind fun r4=> bif !r4.1 then some true else (bD (a1.2.2.2.2.1,(0:Int),(100000:Int))).bind fun r5=> some !r5.1).bind fun x6=> bif x6 then some (((ByteArray.mk #[]),false),()) else (ji a1.2.1).bind fun r7=> bif decide ((ByteArray.mk #[1]).size+r7.1.size<=4611686018427387904) then (ji a1.2.2.1).bind fun r8=> bif decide (((ByteArray.mk #[1])++r7.1).size+r8.1.size<=4611686018427387904) then (ji a1.2.2.2.1).bind fun r9=> bif decide ((((ByteArray.mk #[1])++r7.1)++r8.1).size+r9.1.size<=4611686018427387904) then (ji a1.2.2.2.2.1).bind fun r10=> bif decide (((((ByteArray.mk #[1])++r7.1)++r8.1)++r9.1).size+r10.1.size<=4611686018427387904) then some ((((((ByteArray.mk #[1])++r7.1)++r8.1)++r9.1)++r10.1,true),()) else none else none else none else none else bif decide (a1.1=2) then (Ce (a0,(a1.2.2.2.2.2.2.1,a1.2.2.2.2.2.2.2.1,a1.2.2.2.2.2.2.2.2.1,a1.2.2.2.2.2.2.2.2.2.1))).bind fun r11=> (bif !r11.1.2 then some true else (tN (a1.2.1,a1.2.2.1,a1.2.2.2.1,a1.2.2.2.2.1)).bind fun r12=> bif !r12.1 then some true else (p9 a1.2.2.2.2.2.2.2.2.2.2).bind fun r13=> bif !r13.1 then some true else (bD (a1.2.2.2.2.2.1,(0:Int),(100000:Int))).bind fun r14=> some !r14.1).bind fun x15=> bif x15 then some (((ByteArray.mk #[]),false),()) else (ji a1.2.2.2.2.2.1).bind fun r16=> bif decide ((ByteArray.mk #[2]).size+r16.1.size<=4611686018427387904) then (ji (r11.1.1.size:Int)).bind fun r17=> bif decide (((ByteArray.mk #[2])++r16.1).size+r17.1.size<=4611686018427387904) then bif decide ((((ByteArray.mk #[2])++r16.1)++r17.1).size+r11.1.1.size<=4611686018427387904) then some (((((ByteArray.mk #[2])++r16.1)++r17.1)++r11.1.1,true),()) else none else none else none else bif decide (a1.1=3) then (EY (a0,a1.2.2.2.2.2.2.2.2.2.2)).bind fun r18=> (bif !r18.1.2 then some true else (tN (a1.2.1,a1.2.2.1,a1.2.2.2.1,a1.2.2.2.2.1)).bind fun r19=> bif !r19.1 then some true else (uM (a1.2.2.2.2.2.2.1,a1.2.2.2.2.2.2.2.1,a1.2.2.2.2.2.2.2.2.1,a1.2.2.2.2.2.2.2.2.2.1)).bind fun r20=> bif !r20.1 then some true else some (!decide (a1.2.2.2.2.2.1=0))).bind fun x21=> bif x21 then some (((ByteArray.mk #[]),false),()) else (ji (r18.1.1.size:Int)).bind fun r22=> bif decide ((ByteArray.mk #[3]).size+r22.1.size<=4611686018427387904) then bif decide (((ByteArray.mk #[3])++r22.1).size+r18.1.1.size<=4611686018427387904) then some ((((ByteArray.mk #[3])++r22.1)++r18.1.1,true),()) else none else none else some (((ByteArray.mk #[]),false),()):=by kernel_rfl
def ZL:TC:=
 (zS [zId 4] (zQ (.join [⟨0,[.i .u32],false⟩] 4294967265 none (zS [bN 5] (.block 0 (.loop [⟨0,[.i .u32],false⟩,⟨5,[.i .i64],false⟩] 4294967265 (zQ (zS [dC 8 5 1,r_ 10 9,mf 11 8 10] (zC 11 .skip (.exit 0))) (zQ (.join [⟨0,[.i .u32],false⟩] 4294951105 none (.block 1 (zS [dC 14 0 1,ai 16 5,zIe 17 15 16,[o1 18 (.data (.conv .u32) [.t 17])],zAz 19 14 18,ai 0 19] (zS [bN 6] (.block 2 (.loop [⟨0,[.i .u32],false⟩,⟨6,[.i .i64],false⟩] 4293918913 (zQ (zS [ai 20 6,zGx 21 20 8] (zC 21 .skip (.exit 2))) (zQ (.join [⟨0,[.i .u32],false⟩] 4278190209 none (.block 3 (zS [ai 24 0,[o1 25 (.data (.bin .rem) [.t 24,.c (.int .u32 (2))])],zIf 26 25,ai 7 26] (zS [ai 27 0,[o1 28 (.data (.bin .quo) [.t 27,.c (.int .u32 (2))])],ai 0 28] (zS [ai 29 7] (zC 29 (zR [ai 30 0,zIg 31 30,ai 0 31]) .skip)))))) (zR [gJ 22 6 6]))))))))) (zR [gJ 12 5 5]))))))) (zS [yZ 32 0 4] .ret)))
def ZM:aO:=⟨[.rd false [.d],.rd false [.d]],(.one false [.d])⟩
def ZN:aN:=aG []
def Lv (n:Nat):Int × ByteArray->Option ((Int) × Unit):=aI n ZN ZL [[.i .u32],[.s]] [.i .u32] [] [4] .no
def Lx:=Lv BIG
def ZO:TSp:=⟨ZM,[[.i .u32],[.s]],[.i .u32],[],Ou.j .no,Lx⟩
theorem aqj:zK ZN 96 ZM ZL 33 .no [4]:=by show _=_;kernel_rfl
theorem alz:ZO.Ok PG 96:=aV (ax PG) aqj (by kernel_rfl)
theorem aqk (n) (a0) (a1):Lv n (a0,a1) = (aU n (X:=Int × Int) (B:=Int) (fun self1 x0=> bif decide (x0.2<(a1.size:Int)) then (bnd a1.size x0.2 fun n2=>a1[n2]?.bind fun b3=> aU n (X:=Int × Int) (B:=Int) (fun self5 x4=> bif decide (x4.2<8) then (bif decide ((2:Int)=0) then none else bif decide ((2:Int)=0) then none else bif decide ((Int.tmod x4.1 (2:Int))=1) then some (bits .xor .u32 (IntKind.wrap .u32 (Int.tdiv x4.1 (2:Int))) (3558460437:Int)) else some (IntKind.wrap .u32 (Int.tdiv x4.1 (2:Int))):Option (Int)).bind fun x6=> self5 (x6,IntKind.wrap .i64 (x4.2+1)) else some x4.1) (bits .xor .u32 x0.1 (IntKind.wrap .u32 ((b3.toNat:Int))),(0:Int)):Option (Int)).bind fun x7=> self1 (x7,IntKind.wrap .i64 (x0.2+1)) else some x0.1) (a0,(0:Int))).bind fun x8=> some (x8,()):=by kernel_rfl
def aiH:TC:=
 (zS [zId 2] (zS [ai 3 0,zIh 96,ai 2 4] .ret))
def aiI:aO:=⟨[.rd false [.d]],(.one false [.d])⟩
def aiJ:aN:=aG [(96,ZO)]
def Wh (n:Nat):ByteArray->Option ((Int) × Unit):=aI n aiJ aiH [[.s]] [.i .u32] [] [2] .no
def Wi:=Wh BIG
def aiK:TSp:=⟨aiI,[[.s]],[.i .u32],[],Ou.j .no,Wi⟩
theorem awF:zK aiJ 50 aiI aiH 5 .no [2]:=by show _=_;kernel_rfl
theorem atQ:aiK.Ok PG 50:=aV (ae alz (ax PG)) awF (by kernel_rfl)
theorem awG (n) (a0):Wh n a0 = (Lx ((4294967295:Int),a0)).bind fun r0=> some (r0.1,()):=by kernel_rfl
def ZP:TC:=
 (zS [[o1 2 (.lit [.s] [.string ⟨#[]⟩])]] (zS [ai 3 0,XV 4 3 24,yX 5 4,ai 6 0,XV 7 6 16,yX 8 7,ai 9 0,XV 10 9 8,yX 11 10,ai 12 0,yX 13 12,[o1 14 (.sli [.i .u8] [.t 5,.t 8,.t 11,.t 13])],X5 15 14,ai 2 15] .ret))
def ZQ:aO:=⟨[.rd false [.d]],(.one false [.d])⟩
def ZT:aN:=aG []
def LA (n:Nat):Int->Option ((ByteArray) × Unit):=aI n ZT ZP [[.i .u32]] [.s] [] [2] .no
def LB:=LA BIG
def ZU:TSp:=⟨ZQ,[[.i .u32]],[.s],[],Ou.j .no,LB⟩
theorem aql:zK ZT 49 ZQ ZP 16 .no [2]:=by show _=_;kernel_rfl
theorem alA:ZU.Ok PG 49:=aV (ax PG) aql (by kernel_rfl)
theorem aqm (n) (a0):LA n a0 = bif decide ((24:Int)<0) then none else bif decide ((16:Int)<0) then none else bif decide ((8:Int)<0) then none else some (dW ([IntKind.wrap .u8 (Int.fdiv a0 (2 ^ (Nat.min (Int.toNat (24:Int)) (IntKind.bits .u32)))),IntKind.wrap .u8 (Int.fdiv a0 (2 ^ (Nat.min (Int.toNat (16:Int)) (IntKind.bits .u32)))),IntKind.wrap .u8 (Int.fdiv a0 (2 ^ (Nat.min (Int.toNat (8:Int)) (IntKind.bits .u32)))),IntKind.wrap .u8 (a0)]),()):=by kernel_rfl
def aiL:TC:=
 (zS [[o1 2 (.lit [.s] [.string ⟨#[]⟩])],bH 3] (zQ (zS [ai 4 0,r_ 5 4,ug 6 32 5 9000,jr 7 6] (zC 7 (zS [[o1 2 (.lit [.s] [.string ⟨#[]⟩])],bH 3] .ret) .skip)) (zS [ai 8 0,r_ 9 8,jH 10 45 9,ai 11 0,jH 12 50 11,zKg 13 49 12 10,X8 15 0 14,ai 2 16,ic 3] .ret)))
def aiM:aO:=⟨[.rd false [.d]],(.tup [(false,1),(false,1)] [.d,.d])⟩
def aiN:aN:=aG [(32,d9),(45,wM),(50,aiK),(49,ZU)]
def Wj (n:Nat):ByteArray->Option ((ByteArray × Bool) × Unit):=aI n aiN aiL [[.s]] [.s,.b] [] [2,3] .no
def Wl:=Wj BIG
def aiO:TSp:=⟨aiM,[[.s]],[.s,.b],[],Ou.j .no,Wl⟩
theorem awH:zK aiN 19 aiM aiL 17 .no [2,3]:=by show _=_;kernel_rfl
theorem atS:aiO.Ok PG 19:=aV (ae dQ (ae yj (ae atQ (ae alA (ax PG))))) awH (by kernel_rfl)
theorem awI (n) (a0):Wj n a0 = (bD ((a0.size:Int),(1:Int),(9000:Int))).bind fun r0=> bif !r0.1 then some (((ByteArray.mk #[]),false),()) else (ji (a0.size:Int)).bind fun r1=> (Wi a0).bind fun r2=> (LB r2.1).bind fun r3=> bif decide (r1.1.size+r3.1.size<=4611686018427387904) then bif decide ((r1.1++r3.1).size+a0.size<=4611686018427387904) then some (((r1.1++r3.1)++a0,true),()) else none else none:=by kernel_rfl
end
end Go.Fw
