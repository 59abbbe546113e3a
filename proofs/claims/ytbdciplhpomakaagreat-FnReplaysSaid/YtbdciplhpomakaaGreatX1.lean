/- The given functions, as what they compute; each is shown to be what the code does. No conditions. -/
import Derived.Test.YtbdciplhpomakaaGreatX0
set_option linter.unusedSectionVars false
namespace Go.Fw
noncomputable section
def Ui:TC:=
 (zS [kX 1 0] (zQ (.seq (.join [⟨17,[.b],false⟩] 261888 none (zR [iV 8 1 0 8,pz 10 42 9 12,Na 11 10 4 1 1 4,JG 15 14 4,zDD 16 15 12 4,ru 12 16 17])) (zC 17 (zS [bB 2] .ret) .skip)) (zS [bO 3] (zQ (.join [⟨3,[.i .i64],false⟩] 2475880078570760549797986556 (some [⟨2,[.b],false⟩]) (zS [bO 4] (.block 0 (.loop [⟨3,[.i .i64],false⟩,⟨4,[.i .i64],false⟩] 2475880078570760549797986556 (zQ (zS [OL 18 4 1 1 21] (zC 22 .skip (.exit 0))) (zQ (.join [⟨3,[.i .i64],false⟩] 2475880078570760549764694252 (some [⟨2,[.b],false⟩]) (.block 1 (zQ (zS [Gf 25 1 1 4,nE 28 26 27 1,gI 30 208 29,jT 31 30] (zC 31 (zS [bB 2] .ret) .skip)) (zS [Gf 32 1 1 4,nE 35 33 34 1,YR 37 186 36 5] (zS [au 38 3,gp 39 5,mr 40 39,zAo 41 38 40,au 3 41] (zQ (.seq (.join [⟨69,[.b],false⟩] 1180591616319364792320 none (zR [gp 42 5,gp 43 5,mr 44 43,yI 45 44,JI 46 42 45 5 1,bR 48 1 0,zAC 50 47 49,au 51 50,jN 52 4 9,zDD 53 52 0 9,jN 54 53 9,A_ 55 12 1 1,iJ 57 4 12,zDv 58 57 12,rA 59 56 58 12,Ca 60 56 1 59 12,zHj 186 60 61 61 12,[o2 62 (.index 61 (kD 0)) 12 true],Ca 63 61 1 62 12,Tu 5 64 64 12,[o2 65 (.index 64 (kD 0)) 12 true],Ca 66 5 1 65 12,zGE 67 63 66 12,F_ 54 67 68 68 9 51])) (zC 69 (zS [bB 2] .ret) .skip)) (zS [bO 6] (.block 2 (.loop [⟨6,[.i .i64],false⟩] 2475878897979139832386945220 (zQ (zS [TA 70 6 4] (zC 72 .skip (.exit 2))) (zQ (.join [] 2475842299638897592636539012 (some [⟨2,[.b],false⟩]) (.block 3 (zS [bO 7] (.block 4 (.loop [⟨7,[.i .i64],false⟩] 2475842299638897592636539012 (zQ (zS [au 75 7,gp 76 5,yJ 77 76 75] (zC 78 .skip (.exit 4))) (zQ (.block 5 (zS [au 83 6,Gd 86 5 7,bR 81 1 1,nE 84 82 83 1,JI 88 86 87 5 1,jO 90 204 85 89] (zC 90 (zS [bB 2] .ret) .skip))) (zR [ig 79 7 7])))))))) (zR [ig 73 6 6])))))))))))) (zR [ig 23 4 4]))))))) (zS [Tw 91 3 1 0,pE 94 91 93,au 2 94] .ret)))))
def Uj:aM:=⟨[.rd true [.d,.sl (.own none) fG]],(.one false [.d])⟩
def Uk:aL:=aG [(42,fI),(208,aew),(186,xN),(204,vE)]
def Iq (n:Nat):Ie->Option ((Bool) × Unit):=aI n Uk Ui [uk] [.b] [] [2] .no
def Ir:=Iq BIG
def Ul:TSp:=⟨Uj,[uk],[.b],[],Ou.j .no,Ir⟩
theorem alo:zK Uk 206 Uj Ui 95 .no [2]:=by show _=_;kernel_rfl
theorem aip:Ul.Ok PG 206:=aQ (af eX (af aqd (af Aj (af wy (az PG))))) alo (by kernel_rfl)
theorem alp (n) (a0):Iq n a0 =
 ((bH (a0.1,(1:Int),(12:Int))).bind fun r0=>
  bif !r0.1 then
   some true
  else some (decide (12<(a0.2.length:Int)))).bind fun x1=>
 bif x1 then
  some (false,())
 else (aK n (X:=Int × Int) (B:=(Int) ⊕ (Bool)) (fun self3 x2=>
  bif decide (x2.2<(a0.2.length:Int)) then
   (bnd a0.2.length x2.2 fun n4=>
    a0.2[n4]?.bind fun y5=>
    (Po y5).bind fun r6=>
    bif !r6.1 then
     some (Sum.inr false)
    else bnd a0.2.length x2.2 fun n7=>
    a0.2[n7]?.bind fun y8=>
    (kR y8).bind fun r9=>
    (bnd r9.1.length (IntKind.wrap .i64 ((r9.1.length:Int)-1)) fun n10=>
     r9.1[n10]?.bind fun y11=>
     bif decide (a0.1<=y11) then
      some true
     else bif decide (0<x2.2) then
      bnd a0.2.length (IntKind.wrap .i64 (x2.2-1)) fun n12=>
      a0.2[n12]?.bind fun y13=>
      (kR y13).bind fun r14=>
      bnd r14.1.length (0:Int) fun n15=>
      r14.1[n15]?.bind fun y16=>
      bnd r9.1.length (0:Int) fun n17=>
      r9.1[n17]?.bind fun y18=>
      some (decide (y18<=y16))
     else some false).bind fun x19=>
    bif x19 then
     some (Sum.inr false)
    else aK n (X:=Int) (B:=(Int) ⊕ (Bool)) (fun self21 x20=>
     bif decide (x20<x2.2) then
      (aK n (X:=Int) (B:=(Unit) ⊕ (Bool)) (fun self23 x22=>
       bif decide (x22<(r9.1.length:Int)) then
        bnd a0.2.length x20 fun n24=>
        a0.2[n24]?.bind fun y25=>
        bnd r9.1.length x22 fun n26=>
        r9.1[n26]?.bind fun y27=>
        (jV (y25,y27)).bind fun r28=>
        bif r28.1 then
         some (Sum.inr false)
        else self23 (IntKind.wrap .i64 (x22+1))
       else some (Sum.inl ())) (0:Int)).bind fun y=>match y with
      | .inl x29=>
       self21 (IntKind.wrap .i64 (x20+1))
      | .inr x29=>
       some (Sum.inr x29)
     else some (Sum.inl (IntKind.wrap .i64 (x2.1+(r9.1.length:Int))))) (0:Int):Option ((Int) ⊕ (Bool))).bind fun y=>match y with
   | .inl x30=>
    self3 (x30,IntKind.wrap .i64 (x2.2+1))
   | .inr x30=>
    some (Sum.inr x30)
  else some (Sum.inl x2.1)) ((0:Int),(0:Int))).bind fun y=>match y with
 | .inl x31=>
  some (decide (x31=a0.1),())
 | .inr x31=>
  some (x31,()):=by kernel_rfl
def aex:TC:=
 (zS [dN 2 0,bO 4] (zQ (zS [dP 6 2 2,gI 7 206 6,jT 8 7] (zC 8 (zS [zEj 4] .ret) .skip)) (zQ (.join [] 16776752 (some [⟨4,[.i .i64],false⟩]) (zS [bO 5] (.block 0 (.loop [⟨5,[.i .i64],false⟩] 16776752 (zQ (zS [Tw 9 5 2 1,yJ 12 11 9] (zC 13 .skip (.exit 0))) (zQ (.block 1 (zS [Gf 16 2 1 5,nE 19 17 18 1,au 21 1,jO 22 204 20 21] (zC 22 (zS [M_ 23 5 4] .ret) .skip))) (zR [ig 14 5 5]))))))) (zS [zEj 4] .ret))))
def aey:aM:=⟨[.rd true [.d,.sl (.own none) fG],.rd false [.d]],(.one false [.d])⟩
def aez:aL:=aG [(206,Ul),(204,vE)]
def Pp (n:Nat):Ie × Int->Option ((Int) × Unit):=aI n aez aex [uk,[.i .i64]] [.i .i64] [] [4] .no
def oh:=Pp BIG
def Bh:TSp:=⟨aey,[uk,[.i .i64]],[.i .i64],[],Ou.j .no,oh⟩
theorem atJ:zK aez 183 aey aex 24 .no [4]:=by show _=_;kernel_rfl
theorem CS:Bh.Ok PG 183:=aQ (af aip (af wy (az PG))) atJ (by kernel_rfl)
theorem atK (n) (a0) (a1):Pp n (a0,a1) = (Ir a0).bind fun r0=> bif !r0.1 then some ((-1:Int),()) else (aK n (X:=Int) (B:=(Unit) ⊕ (Int)) (fun self2 x1=> bif decide (x1<(a0.2.length:Int)) then bnd a0.2.length x1 fun n3=> a0.2[n3]?.bind fun y4=> (jV (y4,a1)).bind fun r5=> bif r5.1 then some (Sum.inr x1) else self2 (IntKind.wrap .i64 (x1+1)) else some (Sum.inl ())) (0:Int)).bind fun y=>match y with | .inl x6=> some ((-1:Int),()) | .inr x6=> some (x6,()):=by kernel_rfl
def aiq:TC:=
 (zS [kX 1 0] (zQ (zS [Bc 12 1 2 123,gI 14 127 13,jT 15 14] (zC 15 (zS [bB 2] .ret) .skip)) (zQ (.join [] 2147418124 (some [⟨2,[.b],false⟩]) (zS [bO 3] (.block 0 (.loop [⟨3,[.i .i64],false⟩] 2147418124 (zQ (zS [OL 16 3 1 1 19] (zC 20 .skip (.exit 0))) (zQ (.block 1 (zS [Gf 23 1 1 3,zMe 26 24 25 4 2,[o3 29 42 [.t 28,kO 0,kO 4]],jT 30 29] (zC 30 (zS [bB 2] .ret) .skip))) (zR [ig 21 3 3]))))))) (zS [bR 31 1 0,au 4 32] (zQ (.join [] 1267650600228229401488113274868 (some [⟨2,[.b],false⟩]) (zS [bO 5] (.block 2 (.loop [⟨4,[.i .i64],false⟩,⟨5,[.i .i64],false⟩] 1267650600228229401488113274868 (zQ (zS [au 33 5,zAy 34 33 4] (zC 34 .skip (.exit 2))) (zQ (.join [⟨4,[.i .i64],false⟩] 1267650600228229401359264255956 (some [⟨2,[.b],false⟩]) (.block 3 (zS [dP 38 1 2,au 39 5,jO 40 182 38 39,Ea 40 37 40 2 2,zHb 6 1000000007,pF 6 41 6 41] (zQ (zS [au 43 7,jT 44 43] (zC 44 (zS [bB 2] .ret) .skip)) (zQ (.join [] 73786941110466118404 (some [⟨2,[.b],false⟩]) (zS [bO 8] (.block 4 (.loop [⟨8,[.i .i64],false⟩] 73786941110466118404 (zQ (zS [au 45 8,uA 46 6 1,yJ 48 47 45] (zC 49 .skip (.exit 4))) (zQ (.join [] 73782472695210836484 (some [⟨2,[.b],false⟩]) (.block 5 (zS [uA 52 6 1,au 54 8,Gb 55 53 54 6 1 1,gI 57 186 56,mr 58 57,au 9 58] (zQ (.join [⟨65,[.b],false⟩] 73210515542534782976 none (zR [au 59 9,YH 60 59 1,Cc 61 60 9 2,iJ 63 4 2,[o2 64 (.data (.bin .gtr) [.t 62,.t 63]) 2 true],pu 61 64 65])) (zC 65 (zS [bB 2] .ret) .skip))))) (zR [ig 50 8 8]))))))) (zQ (.join [] 316912649983270374079337597956 (some [⟨2,[.b],false⟩]) (zS [bO 10] (.block 6 (.loop [⟨10,[.i .i64],false⟩] 316912649983270374079337597956 (zQ (zS [OL 66 10 1 1 69] (zC 70 .skip (.exit 6))) (zQ (.join [] 316912640612324384634885376004 (some [⟨2,[.b],false⟩]) (.block 7 (zS [Gf 73 1 1 10,kW 76 74 75 4 4,Tt 11 1000000012,eB 11 11 77] (zQ (.join [⟨97,[.b],false⟩] 316912347825602446716882124800 none (zR [bR 78 11 3,Tv 80 79,wh 82 3 11 2 3,iJ 84 5 3,D7 85 83 84 3,lN 81 85 86,zHk 88,ry 89 9,B_ 90 11 0 89 9,qj 183 88 90 91 91 9,zHk 92,ry 93 9,B_ 94 11 1 93 9,qj 183 92 94 95 95 9,zEv 96 91 95 9,pu 87 96 97])) (zC 97 (zS [bB 2] .ret) .skip))))) (zR [JK 71 10]))))))) (zR [au 98 4,zDg 99 98 2,au 4 99]))))))) (zR [ig 35 5 5]))))))) (zS [ic 2] .ret))))))
def air:aM:=⟨[.rd true nJ],(.one false [.d])⟩
def ais:aL:=aG [(123,xK),(127,Ll),(42,fI),(182,uD),(186,xN),(183,Bh)]
def WY (n:Nat):eD->Option ((Bool) × Unit):=aI n ais aiq [bK] [.b] [] [2] .no
def zw:=WY BIG
def En:TSp:=⟨air,[bK],[.b],[],Ou.j .no,zw⟩
theorem awr:zK ais 180 air aiq 100 .no [2]:=by show _=_;kernel_rfl
theorem GG:En.Ok PG 180:=aQ (af Ai (af Ud (af eX (af xM (af Aj (af CS (az PG))))))) awr (by kernel_rfl)
theorem aws (n) (a0):WY n a0 =
 (mf a0).bind fun r0=>
 (CQ r0.1).bind fun r1=>
 bif !r1.1 then
  some (false,())
 else (aK n (X:=Int) (B:=(Unit) ⊕ (Bool)) (fun self3 x2=>
  bif decide (x2<(a0.2.length:Int)) then
   bnd a0.2.length x2 fun n4=>
   a0.2[n4]?.bind fun y5=>
   (bH (y5.2.2.1,(0:Int),(4:Int))).bind fun r6=>
   bif !r6.1 then
    some (Sum.inr false)
   else self3 (IntKind.wrap .i64 (x2+1))
  else some (Sum.inl ())) (0:Int)).bind fun y=>match y with
 | .inl x7=>
  (aK n (X:=Int × Int) (B:=(Unit) ⊕ (Bool)) (fun self9 x8=>
   bif decide (x8.2<=4) then
    ((qG (a0,x8.2)).bind fun r10=>
     bif !r10.1.2.2 then
      some (Sum.inr false)
     else (aK n (X:=Int) (B:=(Unit) ⊕ (Bool)) (fun self12 x11=>
      bif decide (x11<(r10.1.2.1.length:Int)) then
       (bnd r10.1.2.1.length x11 fun n13=>
        r10.1.2.1[n13]?.bind fun y14=>
        (kR y14).bind fun r15=>
        (bif decide (1<(r15.1.length:Int)) then
         some (decide (x8.1<(r15.1.length:Int)))
         else some false).bind fun x16=>
        bif x16 then
         some (Sum.inr false)
        else some (Sum.inl ())).bind fun y=>match y with
       | .inl x17=>
        self12 (IntKind.wrap .i64 (x11+1))
       | .inr x17=>
        some (Sum.inr x17)
      else some (Sum.inl ())) (0:Int)).bind fun y=>match y with
     | .inl x18=>
      (aK n (X:=Int) (B:=(Unit) ⊕ (Bool)) (fun self20 x19=>
       bif decide (x19<(a0.2.length:Int)) then
        (bnd a0.2.length x19 fun n21=>
         a0.2[n21]?.bind fun y22=>
         (bif !y22.2.2.2 then
          bif decide (y22.2.2.1=x8.2) then
           (oh ((r10.1.1,r10.1.2.1),y22.1)).bind fun r23=>
           (oh ((r10.1.1,r10.1.2.1),y22.2.1)).bind fun r24=>
           some (!decide (r23.1=r24.1))
          else some false
          else some false).bind fun x25=>
         bif x25 then
          some (Sum.inr false)
         else some (Sum.inl ())).bind fun y=>match y with
        | .inl x26=>
         self20 (IntKind.wrap .i64 (x19+1))
        | .inr x26=>
         some (Sum.inr x26)
       else some (Sum.inl ())) (0:Int)).bind fun y=>match y with
      | .inl x27=>
       bif decide (2=0) then
        none
       else some (Sum.inl (IntKind.wrap .i64 (Int.tdiv x8.1 (2:Int))))
      | .inr x27=>
       some (Sum.inr x27)
     | .inr x18=>
      some (Sum.inr x18):Option ((Int) ⊕ (Bool))).bind fun y=>match y with
    | .inl x28=>
     self9 (x28,IntKind.wrap .i64 (x8.2+1))
    | .inr x28=>
     some (Sum.inr x28)
   else some (Sum.inl ())) (a0.1,(0:Int))).bind fun y=>match y with
  | .inl x29=>
   some (true,())
  | .inr x29=>
   some (x29,())
 | .inr x7=>
  some (x7,()):=by kernel_rfl
def JS:TC:=
 (zS [bB 4] (zQ (zS [xw 6 0 6,xw 8 1 8,xn 10 7 9] (zC 10 (zS [bB 4] .ret) .skip)) (zQ (.join [] 67106864 (some [⟨4,[.b],false⟩]) (zS [bO 5] (.block 0 (.loop [⟨5,[.i .i64],false⟩] 67106864 (zQ (zS [Cb 11 5 0] (zC 14 .skip (.exit 0))) (zQ (.block 1 (zS [dz 17 0 5,dz 21 1 5,nE 19 17 18 1,nE 23 21 22 1,xn 25 20 24] (zC 25 (zS [bB 4] .ret) .skip))) (zR [ig 15 5 5]))))))) (zS [ic 4] .ret))))
def JU:aM:=⟨[.rd false fG,.rd false fG],(.one false [.d])⟩
def JV:aL:=aG []
def oW (n:Nat):List Int × List (Int)->Option ((Bool) × Unit):=aI n JV JS [[.sl [.i .i64]],[.sl [.i .i64]]] [.b] [] [4] .no
def tN:=oW BIG
def zx:TSp:=⟨JU,[[.sl [.i .i64]],[.sl [.i .i64]]],[.b],[],Ou.j .no,tN⟩
theorem acA:zK JV 181 JU JS 26 .no [4]:=by show _=_;kernel_rfl
theorem GH:zx.Ok PG 181:=aQ (az PG) acA (by kernel_rfl)
theorem zy (n) (a0) (a1):oW n (a0,a1) = bif !decide ((a0.length:Int)=(a1.length:Int)) then some (false,()) else (aK n (X:=Int) (B:=(Unit) ⊕ (Bool)) (fun self1 x0=> bif decide (x0<(a0.length:Int)) then bnd a0.length x0 fun n2=> a0[n2]?.bind fun y3=> bnd a1.length x0 fun n4=> a1[n4]?.bind fun y5=> bif !decide (y3=y5) then some (Sum.inr false) else self1 (IntKind.wrap .i64 (x0+1)) else some (Sum.inl ())) (0:Int)).bind fun y=>match y with | .inl x6=> some (true,()) | .inr x6=> some (x6,()):=by kernel_rfl
def Eo:TC:=
 (zS [dN 2 0,kX 3 1] (zQ (.join [⟨4,[.b],false⟩] 2147483632 none (zR [iV 5 2 0 5,iV 7 3 0 7,pE 9 6 8,uB 10 9 5 2 1 5,wh 13 5 3 1 5,[o2 15 (.data (.beq false) [.t 12,.t 14]) 5 true],lN 10 15 16,OM 18 12 2 2 3 2,qj 202 19 21 22 22 12,lN 17 22 23,OM 25 19 2 3 3 3,qj 181 26 28 29 29 19,nG 24 29 30 4])) .ret))
def Ep:aM:=⟨[.rd true M0,.rd true M0],(.one false [.d])⟩
def Er:aL:=aG [(202,xG),(181,zx)]
def vG (n:Nat):oV × oV->Option ((Bool) × Unit):=aI n Er Eo [iL,iL] [.b] [] [4] .no
def vH:=vG BIG
def Es:TSp:=⟨Ep,[iL,iL],[.b],[],Ou.j .no,vH⟩
theorem WZ:zK Er 169 Ep Eo 31 .no [4]:=by show _=_;kernel_rfl
theorem Ta:Es.Ok PG 169:=aQ (af Eh (af GH (az PG))) WZ (by kernel_rfl)
theorem W9 (n) (a0) (a1):vG n (a0,a1) = (bif decide (a0.1=a1.1) then bif (a0.2.1 == a1.2.1) then (rD (a0.2.2.1,a1.2.2.1)).bind fun r0=> bif r0.1 then (tN (a0.2.2.2,a1.2.2.2)).bind fun r1=> some r1.1 else some false else some false else some false).bind fun x2=> some (x2,()):=by kernel_rfl
def Um:TC:=
 (zS [kX 1 0] (zS [dP 3 1 4,zHm 4,jO 5 169 3 4,au 2 5] .ret))
def Un:aM:=⟨[.rd true M0],(.one false [.d])⟩
def Uo:aL:=aG [(169,Es)]
def Iu (n:Nat):oV->Option ((Bool) × Unit):=aI n Uo Um [iL] [.b] [] [2] .no
def Iw:=Iu BIG
def Uq:TSp:=⟨Un,[iL],[.b],[],Ou.j .no,Iw⟩
theorem alq:zK Uo 96 Un Um 6 .no [2]:=by show _=_;kernel_rfl
theorem ait:Uq.Ok PG 96:=aQ (af Ta (az PG)) alq (by kernel_rfl)
theorem alr (n) (a0):Iu n a0 = (vH (a0,((0:Int),false,[],[]))).bind fun r0=> some (r0.1,()):=by kernel_rfl
def Ur:TC:=
 (zS [kX 3 1] (zQ (.join [⟨4,[.b],false⟩] 16777200 none (zR [au 5 0,pz 6 42 5 12,au 7 6,ry 8 2,B_ 9 3 0 8 2,zEB 42 9 10 10 2,lN 7 10 11,iJ 13 0 7,wh 14 7 3 2 7,qj 139 13 15 16 16 7,lN 12 16 17,iJ 19 0 13,A_ 20 13 3 3,qj 140 19 21 22 22 13,nG 18 22 23 4])) .ret))
def Us:aM:=⟨[.rd false [.d],.rd true M0],(.one false [.d])⟩
def Ut:aL:=aG [(42,fI),(139,uC),(140,Eg)]
def Iy (n:Nat):Int × oV->Option ((Bool) × Unit):=aI n Ut Ur [[.i .i64],iL] [.b] [] [4] .no
def Ak:=Iy BIG
def Iz:TSp:=⟨Us,[[.i .i64],iL],[.b],[],Ou.j .no,Ak⟩
theorem als:zK Ut 80 Us Ur 24 .no [4]:=by show _=_;kernel_rfl
theorem Pq:Iz.Ok PG 80:=aQ (af eX (af xC (af Nj (az PG)))) als (by kernel_rfl)
theorem alu (n) (a0) (a1):Iy n (a0,a1) = ((bH (a0,(1:Int),(12:Int))).bind fun r0=> bif r0.1 then (bH (a1.1,(1:Int),(100000:Int))).bind fun r1=> bif r1.1 then (qF (a0,a1.2.2.1)).bind fun r2=> bif r2.1 then (xD (a0,a1.2.2.2)).bind fun r3=> some r3.1 else some false else some false else some false).bind fun x4=> some (x4,()):=by kernel_rfl
def Ps:TC:=
 (zS [dN 1 0,yF 2] (zS [zBa 7,dK 7 3 7] (zQ (zS [dP 8 1 2,gI 9 180 8,jT 10 9] (zC 10 (zS [t_ 3 11 3 2] .ret) .skip)) (zS [dP 13 1 2,zHn 14 182 13,Ea 14 12 14 2 2,zHb 4 1000000005,pF 4 15 4 15] (zQ (.join [⟨3,[.sl [.i .i64]],false⟩] 68719345736 none (zS [bO 6] (.block 0 (.loop [⟨3,[.sl [.i .i64]],false⟩,⟨6,[.i .i64],false⟩] 68719345736 (zQ (zS [Tw 17 6 1 0,gH 20 17 19] (zC 20 .skip (.exit 0))) (zQ (.block 1 (zR [dK 3 23 3,au 27 6,uA 24 4 1,iZ 26 4 2,jO 28 183 26 27,Gb 29 25 28 4 1 1,gI 31 186 30,zHf 32 31,YI 33 31 1 32,JD 34 33,M6 23 34 35 23 3])) (zR [ig 21 6 6]))))))) (zS [t_ 3 36 3 2] .ret))))))
def Pv:aM:=⟨[.rd true nJ],(.one false fG)⟩
def Pw:aL:=aG [(180,En),(182,uD),(183,Bh),(186,xN)]
def xO (n:Nat):eD->Option ((List Int) × Unit):=aI n Pw Ps [bK] [.sl [.i .i64]] [] [2] .no
def mX:=xO BIG
def Et:TSp:=⟨Pv,[bK],[.sl [.i .i64]],[],Ou.j .no,mX⟩
theorem aiu:zK Pw 124 Pv Ps 37 .no [2]:=by show _=_;kernel_rfl
theorem Np:Et.Ok PG 124:=aQ (af GG (af xM (af CS (af Aj (az PG))))) aiu (by kernel_rfl)
theorem Px (n) (a0):xO n a0 = (zw a0).bind fun r0=> bif !r0.1 then some ([],()) else (qG (a0,(0:Int))).bind fun r1=> (aK n (X:=(List Int) × Int) (B:=(List Int)) (fun self3 x2=> bif decide (x2.2<a0.1) then (oh ((r1.1.1,r1.1.2.1),x2.2)).bind fun r4=> bnd r1.1.2.1.length r4.1 fun n5=> r1.1.2.1[n5]?.bind fun y6=> (kR y6).bind fun r7=> bnd r7.1.length (0:Int) fun n8=> r7.1[n8]?.bind fun y9=> bif decide (x2.1.length+[y9].length<=4294967296) then self3 (x2.1++[y9],IntKind.wrap .i64 (x2.2+1)) else none else some x2.1) ([],(0:Int))).bind fun x10=> some (x10,()):=by kernel_rfl
def ZX:TC:=
 (zS [kX 1 0] (zQ (.seq (.join [⟨12,[.b],false⟩] 8184 none (zR [iV 3 1 0 3,pz 5 42 4 3,jT 6 5,au 7 6,n_ 8 4,zHo 9 1 1 8 2 4,Tq 180 9 10 10 4,tZ 11 10 4 7])) (zC 12 (zS [bB 2] .ret) .skip)) (zQ (.join [⟨2,[.b],false⟩] 8589926404 none (zR [Gc 13 1 3 4,gI 15 96 14,au 16 15,n_ 17 3,xq 18 17 3,F9 19 1 1 18 3,n_ 20 3,zHo 21 1 3 20 4 3,yH 80 19 21 22 22 3,jN 23 22 3,YN 24 10 1 6,ry 27 10,zEp 28 1 1 27 2 10,zHj 124 28 29 29 10,qj 181 26 29 30 30 10,F_ 23 30 31 31 3 16,au 2 32])) .ret)))
def ZY:aM:=⟨[.rd true OA],(.one false [.d])⟩
def ZZ:aL:=aG [(42,fI),(180,En),(96,Uq),(80,Iz),(124,Et),(181,zx)]
def LA (n:Nat):jU->Option ((Bool) × Unit):=aI n ZZ ZX [gN] [.b] [] [2] .no
def CU:=LA BIG
def Z0:TSp:=⟨ZY,[gN],[.b],[],Ou.j .no,CU⟩
theorem aqe:zK ZZ 118 ZY ZX 33 .no [2]:=by show _=_;kernel_rfl
theorem alx:Z0.Ok PG 118:=aQ (af eX (af GG (af ait (af Pq (af Np (af GH (az PG))))))) aqe (by kernel_rfl)
theorem aqf (n) (a0):LA n a0 = ((bH (a0.1,(1:Int),(3:Int))).bind fun r0=> bif !r0.1 then some true else (zw (a0.2.1,a0.2.2.1)).bind fun r1=> some !r1.1).bind fun x2=> bif x2 then some (false,()) else ((Iw a0.2.2.2).bind fun r3=> bif r3.1 then some true else (Ak (a0.2.1,a0.2.2.2)).bind fun r4=> bif r4.1 then (mX (a0.2.1,a0.2.2.1)).bind fun r5=> (tN (a0.2.2.2.2.2.2,r5.1)).bind fun r6=> some r6.1 else some false).bind fun x7=> some (x7,()):=by kernel_rfl
def Eu:TC:=
 (zS [dN 1 0,zHq 2 1000000003] (zS [YJ 3,iV 4 1 2 4,yG 3 5 6 3,jy 7,F8 6 2 7 6] (zS [zBa 8,iV 9 1 3 9,yG 8 10 11 8,jy 12,F8 11 3 12 11] (zS [xu 13 1 4 2 2 1] .ret))))
def Ev:aM:=⟨[.rd true M0],(.one true M0)⟩
def Ew:aL:=aG []
def vI (n:Nat):oV->Option (oV × Unit):=aI n Ew Eu [iL] iL [] [2] .no
def jD:=vI BIG
def vJ:TSp:=⟨Ev,[iL],iL,[],Ou.j .no,jD⟩
theorem W_:zK Ew 120 Ev Eu 14 .no [2]:=by show _=_;kernel_rfl
theorem Cf:vJ.Ok PG 120:=aQ (az PG) W_ (by kernel_rfl)
theorem Xa (n) (a0):vI n a0 = bif decide (0+a0.2.2.1.length<=4294967296) then bif decide (0+a0.2.2.2.length<=4294967296) then some ((a0.1,a0.2.1,[]++a0.2.2.1,[]++a0.2.2.2),()) else none else none:=by kernel_rfl
def Z4:TC:=
 (zS [dN 1 0,D6 2 1000000003] (zS [[o1 3 (.sli qN [])],jy 4,JC 5 4,OE 6 1 2 5,yG 3 6 7 3,jy 8,JC 9 8,F8 7 2 9 7] (zS [Gc 10 1 3 4,gI 12 120 11,jy 13,F8 12 3 13 12] (zS [xu 14 1 7 2 2 1] .ret))))
def Z5:aM:=⟨[.rd true OA],(.one true OA)⟩
def Z6:aL:=aG [(120,vJ)]
def LB (n:Nat):jU->Option (jU × Unit):=aI n Z6 Z4 [gN] gN [] [2] .no
def p8:=LB BIG
def LC:TSp:=⟨Z5,[gN],gN,[],Ou.j .no,p8⟩
theorem aqg:zK Z6 115 Z5 Z4 15 .no [2]:=by show _=_;kernel_rfl
theorem Uu:LC.Ok PG 115:=aQ (af Cf (az PG)) aqg (by kernel_rfl)
theorem aqh (n) (a0):LB n a0 = bif decide (0+a0.2.2.1.length<=4294967296) then (jD a0.2.2.2).bind fun r0=> some ((a0.1,a0.2.1,[]++a0.2.2.1,r0.1),()) else none:=by kernel_rfl
def Z7:TC:=
 (zS [dN 2 0,kX 3 1] (zS [iV 5 2 1 5,dP 7 3 2,jO 8 143 6 7,au 4 8] .ret))
def Z8:aM:=⟨[.rd true OD,.rd true [.d,.d]],(.one false [.d])⟩
def Z9:aL:=aG [(143,Bf)]
def LD (n:Nat):BH × aR->Option ((Bool) × Unit):=aI n Z9 Z7 [kU,[.i .i64,.i .i64]] [.b] [] [4] .no
def CV:=LD BIG
def LF:TSp:=⟨Z8,[kU,[.i .i64,.i .i64]],[.b],[],Ou.j .no,CV⟩
theorem aqi:zK Z9 129 Z8 Z7 9 .no [4]:=by show _=_;kernel_rfl
theorem Uv:LF.Ok PG 129:=aQ (af CP (az PG)) aqi (by kernel_rfl)
theorem aqj (n) (a0) (a1):LD n (a0,a1) = (ww (a0.2,a1)).bind fun r0=> some (r0.1,()):=by kernel_rfl
def Z_:TC:=
 (zS [dN 2 0,dN 3 1,zGC 4 1000000005,bB 5] (zQ (.seq (.join [⟨20,[.b],false⟩] 2097088 none (zR [dP 6 2 2,gI 7 127 6,jT 8 7,M8 9 8 3 2 0 3,TD 12 3 2 3 128 11 3,D_ 14 13 3 9,D8 17 2 2 10,D8 18 3 2 10,yH 129 17 18 19 19 10,ru 16 19 20])) (zC 20 (zS [[o1 21 (.build kU [])],Ce 4 21 4 21] .ret) .skip)) (zS [pG 22 2 0 2 1,yK 26 3 2 130 25,zHr,iY 4 28 4 28,ic 5] .ret)))
def aaa:aM:=⟨[.rd true OD,.rd true [.d,.d]],(.tup [(true,2),(false,1)] [.d,.sl (.own none) [.d,.d],.d])⟩
def aab:aL:=aG [(127,Ll),(128,Bd),(129,LF),(130,GA)]
def LG (n:Nat):BH × aR->Option ((Int × List aR × Bool) × Unit):=aI n aab Z_ [kU,[.i .i64,.i .i64]] apE [] [4,5] .no
def LH:=LG BIG
def aac:TSp:=⟨aaa,[kU,[.i .i64,.i .i64]],apE,[],Ou.j .no,LH⟩
theorem aqk:zK aab 44 aaa Z_ 29 .no [4,5]:=by show _=_;kernel_rfl
theorem aly:aac.Ok PG 44:=aQ (af Ud (af CJ (af Uv (af Lh (az PG))))) aqk (by kernel_rfl)
theorem aql (n) (a0) (a1):LG n (a0,a1) = ((CQ a0).bind fun r0=> bif !r0.1 then some true else (wu (a0.1,a1)).bind fun r1=> bif !r1.1 then some true else (CV (a0,a1)).bind fun r2=> some r2.1).bind fun x3=> bif x3 then some (((0:Int),[],false),()) else (Bg (a0.2,a1)).bind fun r4=> some ((a0.1,r4.1,true),()):=by kernel_rfl
def aeA:TC:=
 (zS [dN 3 1,[o1 4 (.lit oU [.slice none 0 0])]] (zS [[o1 8 (.sli qN [])],dK 8 5 8] (zQ (.join [⟨5,oU,false⟩] 1125899906842208 none (zS [bO 6] (.block 0 (.loop [⟨5,oU,false⟩,⟨6,[.i .i64],false⟩] 1125899906842208 (zQ (zS [dz 9 6 0,yJ 11 10 9] (zC 12 .skip (.exit 0))) (zQ (.join [⟨5,oU,false⟩] 1125899906809888 none (.block 1 (zQ (.join [⟨42,[.b],false⟩] 8796092989440 none (zR [dz 15 0 6,Tx 17 15 16 4,bR 20 3 0,gH 22 19 21,au 23 22,jN 24 0 8,YP 25 6 8 24 8,xq 27 26 8,YL 28 24 4 27 8,Ba 29 8 3 0 8,zDA 31 28 30 8,jN 32 31 8,iJ 33 0 17,iJ 34 6 17,rA 35 33 34 17,JF 36 35 17,zHs 37 33 4 1 36 17,A_ 38 17 3 1,zDx 40 37 39 17,F_ 32 40 41 41 8 23])) (zC 42 (zR [dK 5 43 5,TB 44 0 6 4 4,zHt 48 47,M6 43 48 49 43 5]) .skip)))) (zR [ig 13 6 6]))))))) (zS [dK 5 50 5,dP 51 3 4,zHt 52 51,M6 50 52 53 50 5] (zQ (.join [⟨5,oU,false⟩] 39614081257114154398262493344 none (zS [bO 7] (.block 2 (.loop [⟨5,oU,false⟩,⟨7,[.i .i64],false⟩] 39614081257114154398262493344 (zQ (zS [Cb 54 7 0] (zC 57 .skip (.exit 2))) (zQ (.join [⟨5,oU,false⟩] 39614081255979247292165128224 none (.block 3 (zQ (.join [⟨87,[.b],false⟩] 309485008668423564117934080 none (zR [dz 60 0 7,Tx 62 60 61 4,bR 65 3 0,[o1 67 (.data (.bin .gtr) [.t 64,.t 66])],au 68 67,jN 69 0 8,YP 70 7 8 69 8,xq 72 71 8,YL 73 69 4 72 8,Ba 74 8 3 0 8,zDA 76 73 75 8,jN 77 76 8,iJ 78 0 17,iJ 79 7 17,rA 80 78 79 17,JF 81 80 17,zHs 82 78 4 1 81 17,A_ 83 17 3 1,[o2 85 (.data (.bin .gtr) [.t 82,.t 84]) 17 true],F_ 77 85 86 86 8 68])) (zC 87 (zR [dK 5 88 5,TB 89 0 7 4 4,zHt 93 92,M6 88 93 94 88 5]) .skip)))) (zR [ig 58 7 7]))))))) (zS [t_ 5 95 5 4] .ret))))))
def aeB:aM:=⟨[.rd false [.sl (.own none) [.d,.d,.d,.d]],.rd true [.d,.d,.d,.d]],(.one false [.sl (.own none) [.d,.d,.d,.d]])⟩
def aeC:aL:=aG []
def Py (n:Nat):(List l9) × l9->Option ((List l9) × Unit):=aI n aeC aeA [oU,qN] oU [] [4] .no
def Pz:=Py BIG
def aeD:TSp:=⟨aeB,[oU,qN],oU,[],Ou.j .no,Pz⟩
theorem atL:zK aeC 184 aeB aeA 96 .no [4]:=by show _=_;kernel_rfl
theorem aqm:aeD.Ok PG 184:=aQ (az PG) atL (by kernel_rfl)
theorem atM (n) (a0) (a1):Py n (a0,a1) = (aK n (X:=(List l9) × Int) (B:=(List l9)) (fun self1 x0=> bif decide (x0.2<(a0.length:Int)) then ((bnd a0.length x0.2 fun n2=> a0[n2]?.bind fun y3=> bif decide (y3.1<a1.1) then some true else bnd a0.length x0.2 fun n4=> a0[n4]?.bind fun y5=> bif decide (y5.1=a1.1) then bnd a0.length x0.2 fun n6=> a0[n6]?.bind fun y7=> some (decide (y7.2.1<a1.2.1)) else some false).bind fun x8=> bif x8 then bnd a0.length x0.2 fun n9=> a0[n9]?.bind fun y10=> bif decide (x0.1.length+[y10].length<=4294967296) then some (x0.1++[y10]) else none else some x0.1:Option ((List l9))).bind fun x11=> self1 (x11,IntKind.wrap .i64 (x0.2+1)) else some x0.1) ([],(0:Int))).bind fun x12=> bif decide (x12.length+[a1].length<=4294967296) then (aK n (X:=(List l9) × Int) (B:=(List l9)) (fun self14 x13=> bif decide (x13.2<(a0.length:Int)) then ((bnd a0.length x13.2 fun n15=> a0[n15]?.bind fun y16=> bif decide (a1.1<y16.1) then some true else bnd a0.length x13.2 fun n17=> a0[n17]?.bind fun y18=> bif decide (y18.1=a1.1) then bnd a0.length x13.2 fun n19=> a0[n19]?.bind fun y20=> some (decide (a1.2.1<y20.2.1)) else some false).bind fun x21=> bif x21 then bnd a0.length x13.2 fun n22=> a0[n22]?.bind fun y23=> bif decide (x13.1.length+[y23].length<=4294967296) then some (x13.1++[y23]) else none else some x13.1:Option ((List l9))).bind fun x24=> self14 (x24,IntKind.wrap .i64 (x13.2+1)) else some x13.1) (x12++[a1],(0:Int))).bind fun x25=> some (x25,()) else none:=by kernel_rfl
def aeE:TC:=
 (zS [dN 2 0,dN 3 1,D5 4 1000000005,bB 5] (zS [zHu 1000000007 2 12 12,zHv 1000000007 123 12 13 13,zHw 1000000007 14 14,zHx 1000000007 44 13 14 15 15,zMi 1000000007 2 15 11 15 11,zGC 6 1000000007,pF 6 16 6 16] (zQ (.seq (.join [⟨24,[.b],false⟩] 33292288 none (zR [Bc 18 2 2 180,JM 20 19 7 3,tZ 23 22 3 21])) (zC 24 (zS [zBD 25,Ce 4 25 4 25] .ret) .skip)) (zS [dP 27 2 2,zHn 28 182 27,Ea 28 26 28 2 2,zHb 8 1000000009,pF 8 29 8 29] (zS [M5 1000000011 31 31 3 0,M5 1000000011 33 33 3 1,zHB 35 35,M5 1000000011 36 36 3 0,zHx 1000000011 183 35 37 38 38,zHB 39 39,M5 1000000011 40 40 3 1,zHx 1000000011 183 39 41 42 42,[⟨false,[],[1000000011],.det 1 (.data (.bin .neq) [.t 38,.t 42]),[43],(some 43),none⟩,⟨false,[],[1000000011],.det 1 (.build qN [(0,.t 32),(1,.t 34),(3,.t 43)]),[44],(some 44),none⟩],Tt 10 1000000011,eB 10 10 44] (zS [pG 45 2 0 2 1,yK 49 10 4 184 48,[o5 (.build bK [(0,.t 46),(1,.t 50)]) 51 50],iY 4 51 4 51,ic 5] .ret))))))
def aeF:aM:=⟨[.rd true nJ,.rd true [.d,.d]],(.tup [(true,2),(false,1)] Ct7)⟩
def aeG:aL:=aG [(123,xK),(44,aac),(180,En),(182,uD),(183,Bh),(184,aeD)]
def PD (n:Nat):eD × aR->Option (apI × Unit):=aI n aeG aeE [bK,[.i .i64,.i .i64]] Oz [] [4,5] .no
def Bi:=PD BIG
def aeH:TSp:=⟨aeF,[bK,[.i .i64,.i .i64]],Oz,[],Ou.j .no,Bi⟩
theorem atN:zK aeG 121 aeF aeE 52 .no [4,5]:=by show _=_;kernel_rfl
theorem aqn:aeH.Ok PG 121:=aQ (af Ai (af aly (af GG (af xM (af CS (af aqm (az PG))))))) atN (by kernel_rfl)
theorem atO (n) (a0) (a1):PD n (a0,a1) = (mf a0).bind fun r0=> (LH (r0.1,a1)).bind fun r1=> ((zw a0).bind fun r2=> bif !r2.1 then some true else some !r1.1.2.2).bind fun x3=> bif x3 then some (((0:Int),[],false),()) else (qG (a0,(0:Int))).bind fun r4=> (oh ((r4.1.1,r4.1.2.1),a1.1)).bind fun r5=> (oh ((r4.1.1,r4.1.2.1),a1.2)).bind fun r6=> (Pz (a0.2,(a1.1,a1.2,(0:Int),!decide (r5.1=r6.1)))).bind fun r7=> some ((a0.1,r7.1,true),()):=by kernel_rfl
def PE:TC:=
 (zS [dN 3 0,dN 4 1,[o1 6 (.lit oU [.slice none 0 0])],bO 7] (zS [[o1 18 (.sli qN [])],bR 19 3 1,M6 18 20 21 18 8] (zS [dP 23 3 2,au 24 2,jO 25 182 23 24,Ea 25 22 25 2 2,zHb 9 1000000010,pF 9 26 9 26] (zS [uA 28 9 1,iZ 30 9 2,bR 31 4 0,jO 33 183 30 32,Gb 34 29 33 9 1 1,YR 36 186 35 11] (zS [uA 37 9 1,iZ 39 9 2,bR 40 4 1,jO 42 183 39 41,Gb 43 38 42 9 1 1,YR 45 186 44 12] (zQ (.join [⟨11,[.sl [.i .i64]],false⟩] 4433230883198976 none (zS [gp 46 12,mr 47 46,gp 48 11,yJ 49 48 47] (zC 50 (zR [YM 12 51 12 46 51,YM 51 11 51 48 11]) .skip))) (zS [ig 52 2 13] (zQ (.join [⟨13,[.i .i64],false⟩] 54043195528454144 none (zS [au 54 13,YH 55 54 4] (zC 55 (zR [nZ 13 4]) .skip))) (zQ (.join [⟨8,oU,false⟩] 1237940039213322680861212928 none (zS [bO 14] (.block 0 (.loop [⟨8,oU,false⟩,⟨14,[.i .i64],false⟩] 1237940039213322680861212928 (zQ (zS [au 56 14,gp 57 8,yJ 58 57 56] (zC 59 .skip (.exit 0))) (zQ (.join [⟨8,oU,false⟩] 1237940034817809444547592448 none (.block 1 (zQ (.join [⟨84,[.b],false⟩] 38685621615982115163209728 none (zR [Gd 62 8 14,OI 64 62 63,zBf 66 8 4 3 65,au 67 66,Tu 8 68 68 5,iJ 69 14 5,rA 70 68 69 5,JF 71 70 5,zHs 72 8 4 2 71 5,iJ 73 2 5,D7 74 72 73 5,lN 67 74 75,Tu 11 77 77 14,Tu 8 78 78 14,iJ 79 14 14,rA 80 78 79 14,JF 81 80 14,Ca 82 8 4 81 14,qj 204 77 82 83 83 14,pu 76 83 84])) (zC 84 (zR [gp 85 8,dz 86 14 13,OI 88 85 86,[o4 1 [8,57,62,85] (.store 8 [(0,4)] 2 (.t 89) (.t 87))]]) .skip)))) (zR [JK 60 14]))))))) (zQ (.join [⟨8,oU,false⟩] 713623846352979939291202945439367293292478912 (some [⟨6,oU,false⟩,⟨7,[.i .i64],false⟩]) (zS [bO 15] (.block 2 (.loop [⟨8,oU,false⟩,⟨15,[.i .i64],false⟩] 713623846352979939291202945583482481368334784 (zQ (zS [au 90 15,gp 91 8,yJ 92 91 90] (zC 93 .skip (.exit 2))) (zQ (.join [⟨8,oU,false⟩] 713623846352979863776860549031170524445868480 (some [⟨6,oU,false⟩,⟨7,[.i .i64],false⟩]) (.block 3 (zS [gp 96 11,Gd 97 8 15,OI 99 97 98,YI 101 8 4 100,jO 102 204 96 101,au 16 102] (zS [gp 103 11,Gd 104 8 15,OI 106 104 105,zBf 108 8 4 1 107,jO 109 204 103 108,au 17 109] (zQ (.seq (.join [⟨133,[.b],false⟩] 21778070184865847027949067743009083228160 none (zR [Gf 110 3 1 15,zMe 113 111 112 4 3,M8 116 115 6 3 1 6,YP 119 15 6 118 6,xq 121 120 6,[o2 122 (.load 118 [(0,4)] 2 (.t 121) 1 false) 6 false],jN 123 2 6,JJ 124 122 123 6 116,au 126 125,jN 127 16 16,zBn 128 127 16,jN 129 128 16,iJ 130 17 19,zEc 131 130 19,F_ 129 131 132 132 16 126])) (zC 133 (.exit 3) .skip)) (zQ (.seq (.join [⟨137,[.b],false⟩] 326671072244100924924839623134497482997760 none (zR [au 134 16,Cc 135 134 17 1,pu 135 136 137])) (zC 137 (zS [gp 138 8,dz 139 15 13,OI 141 138 139,[o4 1 [8,91,97,104,138] (.store 8 [(0,4)] 2 (.t 142) (.t 140))]] (.exit 3)) .skip)) (zS [Gd 143 8 15,OI 145 143 144,[o4 1 [8,91,97,104,143] (.store 8 [(0,4)] 3 (.t 146) (.c [.b] [.bool true]))]] (zS [[⟨false,[],[],.det 2 (.copy 8),[147,8,99,100,106,107,145,146],(some 147),none⟩],au 148 15,dK 147 6 147,au 7 148] .ret)))))))) (zR [JK 94 15]))))))) (zS [YM 8 149 8 91 149,dK 149 6 149,zEj 7] .ret)))))))))))
def PH:aM:=⟨[.rd true nJ,.rd true [.d,.d],.rd false [.d]],(.tup [(false,1),(false,1)] [.sl (.own none) [.d,.d,.d,.d],.d])⟩
def PI:aL:=aG [(182,uD),(183,Bh),(186,xN),(204,vE)]
def Ey (n:Nat):eD × aR × Int->Option ((List l9 × Int) × Unit):=aI n PI PE [bK,[.i .i64,.i .i64],[.i .i64]] [.sl qN,.i .i64] [] [6,7] .no
def sD:=Ey BIG
def PL:TSp:=⟨PH,[bK,[.i .i64,.i .i64],[.i .i64]],[.sl qN,.i .i64],[],Ou.j .no,sD⟩
theorem aiv:zK PI 185 PH PE 150 .no [6,7]:=by show _=_;kernel_rfl
theorem af5:PL.Ok PG 185:=aQ (af xM (af CS (af Aj (af wy (az PG))))) aiv (by kernel_rfl)
theorem aiw (n) (a0) (a1) (a2):Ey n (a0,a1,a2) =
 bif decide (0+a0.2.length<=4294967296) then
  (qG (a0,a2)).bind fun r0=>
  (oh ((r0.1.1,r0.1.2.1),a1.1)).bind fun r1=>
  bnd r0.1.2.1.length r1.1 fun n2=>
  r0.1.2.1[n2]?.bind fun y3=>
  (kR y3).bind fun r4=>
  (oh ((r0.1.1,r0.1.2.1),a1.2)).bind fun r5=>
  bnd r0.1.2.1.length r5.1 fun n6=>
  r0.1.2.1[n6]?.bind fun y7=>
  (kR y7).bind fun r8=>
  (bif decide ((r8.1.length:Int)<(r4.1.length:Int)) then
   some r8.1
   else some r4.1).bind fun x9=>
  (bif decide (4<(IntKind.wrap .i64 (a2+1))) then
   some (4:Int)
   else some (IntKind.wrap .i64 (a2+1))).bind fun x10=>
  (aK n (X:=(List l9) × Int) (B:=(List l9)) (fun self12 x11=>
   bif decide (x11.2<(x11.1.length:Int)) then
    ((bnd x11.1.length x11.2 fun n13=>
     x11.1[n13]?.bind fun y14=>
     bif y14.2.2.2 then
      bnd x11.1.length x11.2 fun n15=>
      x11.1[n15]?.bind fun y16=>
      bif decide (y16.2.2.1=a2) then
       bnd x11.1.length x11.2 fun n17=>
       x11.1[n17]?.bind fun y18=>
       (jV (x9,y18.1)).bind fun r19=>
       some r19.1
      else some false
     else some false).bind fun x20=>
     bif x20 then
      bnd x11.1.length x11.2 fun n21=>
      x11.1[n21]?.bind fun y22=>
      some (x11.1.set n21 (y22.1,y22.2.1,x10,y22.2.2.2))
     else some x11.1).bind fun x23=>
    self12 (x23,IntKind.wrap .i64 (x11.2+1))
   else some x11.1) ([]++a0.2,(0:Int))).bind fun x24=>
  (aK n (X:=(List l9) × Int) (B:=((List l9)) ⊕ ((List l9) × Int)) (fun self26 x25=>
   bif decide (x25.2<(x25.1.length:Int)) then
    (bnd x25.1.length x25.2 fun n27=>
     x25.1[n27]?.bind fun y28=>
     (jV (x9,y28.1)).bind fun r29=>
     bnd x25.1.length x25.2 fun n30=>
     x25.1[n30]?.bind fun y31=>
     (jV (x9,y31.2.1)).bind fun r32=>
     (bnd a0.2.length x25.2 fun n33=>
      a0.2[n33]?.bind fun y34=>
      bif y34.2.2.2 then
       some true
      else bnd a0.2.length x25.2 fun n35=>
      a0.2[n35]?.bind fun y36=>
      bif !decide (y36.2.2.1=a2) then
       some true
      else bif !r29.1 then
       some !r32.1
      else some false).bind fun x37=>
     bif x37 then
      some (Sum.inl x25.1)
     else (bif r29.1 then
      some r32.1
      else some false).bind fun x38=>
     bif x38 then
      bnd x25.1.length x25.2 fun n39=>
      x25.1[n39]?.bind fun y40=>
      some (Sum.inl (x25.1.set n39 (y40.1,y40.2.1,x10,y40.2.2.2)))
     else bnd x25.1.length x25.2 fun n41=>
     x25.1[n41]?.bind fun y42=>
     some (Sum.inr (x25.1.set n41 (y42.1,y42.2.1,y42.2.2.1,true),x25.2))).bind fun y=>match y with
    | .inl x43=>
     self26 (x43,IntKind.wrap .i64 (x25.2+1))
    | .inr x43=>
     some (Sum.inr (x43.1,x43.2))
   else some (Sum.inl x25.1)) (x24,(0:Int))).bind fun y=>match y with
  | .inl x44=>
   some ((x44,(-1:Int)),())
  | .inr x44=>
   some (x44,())
 else none:=by kernel_rfl
def aad:TC:=
 (zS [dN 2 0,dN 3 1,D5 4 1000000005,rC 5 1000000006,bB 6,bB 7] (zQ (.seq (.join [⟨23,[.b],false⟩] 16760832 none (zR [Bc 14 2 2 180,Tv 16 15,D8 18 2 2 3,Tq 123 18 19 19 3,TD 20 3 2 3 129 19 3,tZ 22 21 3 17])) (zC 23 (zS [zBD 24,zHC 25,iY 4 24 4 24,eB 5 5 25,zHD,bB 7] .ret) .skip)) (zS [bR 26 2 0,zBE 28 27,D5 8 1000000009,iY 8 28 8 28] (zS [[o1 29 (.build qN [])],Tt 9 1000000010,eB 9 9 29] (zQ (.join [⟨9,qN,false⟩,⟨8,bK,false⟩] 4722366482868571473664 none (zS [bO 10] (.block 0 (.loop [⟨9,qN,false⟩,⟨8,bK,false⟩,⟨10,[.i .i64],false⟩] 4722366482868571473664 (zQ (zS [OL 30 10 2 1 33] (zC 34 .skip (.exit 0))) (zQ (.join [⟨9,qN,false⟩,⟨8,bK,false⟩] 4722366482732206260992 none (.block 1 (zQ (.join [⟨56,[.b],false⟩] 144115050636902400 none (zR [au 39 10,bR 37 2 1,Tx 40 38 39 4,bR 43 3 0,pE 45 42 44,uB 46 45 9 2 1 9,iJ 49 10 9,rA 50 48 49 9,JF 51 50 9,zHs 52 48 4 1 51 9,wh 53 9 3 1 9,D7 55 52 54 9,pu 46 55 56])) (zC 56 (zR [Gf 57 2 1 10,kW 60 58 59 4 4,eB 9 9 61]) (zR [au 66 10,uA 62 8 1,bR 64 2 1,kW 67 65 66 4 4,zHt 69 68,YO 63 63 69 70 63 63 8 70 8 8 1]))))) (zR [JK 35 10]))))))) (zQ (zS [bR 72 9 3,jT 74 73] (zC 74 (zS [iZ 75 8 2,zHC 76,DZ 75 4 75 4 75 75 8,eB 5 5 76,zHD,ic 7] .ret) .skip)) (zQ (.join [⟨8,bK,false⟩,⟨4,bK,false⟩,⟨5,[.i .i64,.i .i64],false⟩] 81129638263490954243960358320624 (some [⟨4,bK,false⟩,⟨5,[.i .i64,.i .i64],false⟩,⟨6,[.b],false⟩,⟨7,[.b],false⟩]) (zS [[⟨false,[],[3000008001],.det 1 (.idx .nil),[77,8],(some 77),none⟩],OE 78 9 2 77,au 11 78] (.block 2 (.loop [⟨8,bK,false⟩,⟨4,bK,false⟩,⟨5,[.i .i64,.i .i64],false⟩,⟨11,[.i .i64],false⟩] 81129637810143771888474417805808 (zQ (zS [au 79 11,zHE 80 79] (zC 80 .skip (.exit 2))) (zQ (.block 3 (zS [dP 84 8 2,dP 85 3 2,au 86 11,D9 87 185 84 85 86,Ea 87 83 87 1 1,dK 88 12 88,au 13 89] (zS [zHd 12 12 90 12 90,M9 91 8 8 1 90] (zS [au 92 13,zHE 93 92] (zC 93 (zS [yL 95 12,yL 100 12,dP 94 8 2,zGx 4 95 96 97 97,zIa 4 97 98 98,zGy 4 95 0 4 98 99 99,zGx 4 100 101 102 102,zIa 4 102 103 103,[⟨false,[],[4],.det 1 (.load 100 [(0,4)] 1 (.t 103) 1 false),[104],(some 104),none⟩,⟨false,[],[4],.det 1 (.build [.i .i64,.i .i64] [(0,.t 99),(1,.t 104)]),[105],(some 105),none⟩],eB 4 4 94,eB 5 5 105,ic 6,ic 7] .ret) .skip))))) (zR [au 81 11,yI 82 81,au 11 82]))))))) (zS [dP 106 8 2,zHC 107,eB 4 4 106,eB 5 5 107,bB 6,ic 7] .ret))))))))
def aae:aM:=⟨[.rd true nJ,.rd true [.d,.d]],(.tup [(true,2),(true,2),(false,1),(false,1)] [.d,.sl (.ro []) [.d,.d,.d,.d],.d,.d,.d,.d])⟩
def aaf:aL:=aG [(180,En),(123,xK),(129,LF),(185,PL)]
def LJ (n:Nat):eD × aR->Option (aBQ × Unit):=aI n aaf aad [bK,[.i .i64,.i .i64]] apC [] [4,5,6,7] .no
def kS:=LJ BIG
def aag:TSp:=⟨aae,[bK,[.i .i64,.i .i64]],apC,[],Ou.j .no,kS⟩
theorem aqo:zK aaf 122 aae aad 108 .no [4,5,6,7]:=by show _=_;kernel_rfl
theorem alz:aag.Ok PG 122:=aQ (af GG (af Ai (af Uv (af af5 (az PG))))) aqo (by kernel_rfl)
theorem aqp (n) (a0) (a1):LJ n (a0,a1) = ((zw a0).bind fun r0=> bif !r0.1 then some true else (mf a0).bind fun r1=> (CV (r1.1,a1)).bind fun r2=> some !r2.1).bind fun x3=> bif x3 then some (((0:Int),[],(0:Int),(0:Int),false,false),()) else (aK n (X:=l9 × eD × Int) (B:=l9 × eD) (fun self5 x4=> bif decide (x4.2.2<(a0.2.length:Int)) then ((bnd a0.2.length x4.2.2 fun n6=> a0.2[n6]?.bind fun y7=> bif decide (y7.1=a1.1) then bnd a0.2.length x4.2.2 fun n8=> a0.2[n8]?.bind fun y9=> some (decide (y9.2.1=a1.2)) else some false).bind fun x10=> bif x10 then bnd a0.2.length x4.2.2 fun n11=> a0.2[n11]?.bind fun y12=> some (y12,x4.2.1) else bnd a0.2.length x4.2.2 fun n13=> a0.2[n13]?.bind fun y14=> bif decide (x4.2.1.2.length+[y14].length<=4294967296) then some (x4.1,(x4.2.1.1,x4.2.1.2++[y14])) else none:Option (l9 × eD)).bind fun x15=> self5 (x15.1,x15.2,IntKind.wrap .i64 (x4.2.2+1)) else some (x4.1,x4.2.1)) (((0:Int),(0:Int),(0:Int),false),(a0.1,[]),(0:Int))).bind fun x16=> bif !x16.1.2.2.2 then some ((x16.2.1,x16.2.2,(0:Int),(0:Int),false,true),()) else (aK n (X:=eD × eD × aR × Int) (B:=(eD × eD × aR) ⊕ (eD × aR × Bool × Bool)) (fun self18 x17=> bif decide (0<=x17.2.2.2) then (sD (x17.1,a1,x17.2.2.2)).bind fun r19=> bif decide (0<=r19.1.2) then bnd r19.1.1.length r19.1.2 fun n20=> r19.1.1[n20]?.bind fun y21=> bnd r19.1.1.length r19.1.2 fun n22=> r19.1.1[n22]?.bind fun y23=> some (Sum.inr ((x17.1.1,r19.1.1),(y21.1,y23.2.1),true,true)) else self18 ((x17.1.1,r19.1.1),x17.2.1,x17.2.2.1,IntKind.wrap .i64 (x17.2.2.2-1)) else some (Sum.inl (x17.1,x17.2.1,x17.2.2.1))) (x16.2,((0:Int),[]),((0:Int),(0:Int)),x16.1.2.2.1)).bind fun y=>match y with | .inl x24=> some ((x24.1.1,x24.1.2,(0:Int),(0:Int),false,true),()) | .inr x24=> some ((x24.1.1,x24.1.2,x24.2.1.1,x24.2.1.2,x24.2.2),()):=by kernel_rfl
def anI:TC:=
 (zS [dN 2 0,dN 3 1,D6 4 1000000005,zHq 5 1000000006,bO 6] (zQ (.seq (.join [⟨45,[.b],false⟩] 70368743915520 none (zR [Bc 18 2 7 118,Tv 20 19,n_ 22 3,xq 23 22 3,F9 24 2 1 23 3,TD 25 3 4 3 119 24 3,D_ 27 26 3 21,JH 30 11 3 0,n_ 32 11,xq 33 32 11,F9 34 2 3 33 11,zEh 35 31 34 11,jN 36 35 11,A_ 37 18 3 0,YN 39 18 2 3,zEz 42 41 18,zEv 43 38 42 18,F_ 36 43 44 44 11 29])) (zC 45 (zS [zDe 46,zHm 47,iY 4 46 4 46,iY 5 47 5 47,nZ 6 1] .ret) .skip)) (zQ (zS [bR 48 3 0,YQ 50 2 3,pE 53 49 52] (zC 53 (zS [Bc 54 2 7 115,Gc 56 2 3 4,gI 58 120 57,iY 4 55 4 55,iY 5 58 5 58,bO 6] .ret) .skip)) (zS [bR 59 3 0,[o5 (.build iL [(0,.t 60),(1,.c [.b] [.bool true])]) 61 1000000002],zHq 7 1000000008,iY 7 61 7 61] (zS [[⟨false,[],[3000002002],.det 1 (.idx .nil),[62,2,50,51],(some 62),none⟩],JE 63 2 1 62 2,D5 8 1000000009,eB 8 8 63] (zQ (.join [⟨8,bK,false⟩,⟨7,iL,false⟩] 1461501637330902918203684832697836275582223253376 none (zS [bR 64 3 1] (.block 0 (zQ (.join [⟨66,[.b],false⟩] 516508834063867445248 none (zS [TH 67 65 1] (zC 66 .skip (zR [TH 68 65 4])))) (zC 66 (zS [bO 9] (.block 1 (.loop [⟨8,bK,false⟩,⟨7,iL,false⟩,⟨9,[.i .i64],false⟩] 19807040038270274039680339840 (zQ (zS [OL 69 9 3 2 72] (zC 73 .skip (.exit 1))) (zQ (.join [⟨8,bK,false⟩,⟨7,iL,false⟩] 19806965070702358484062571904 none (.block 2 (zS [au 80 9,zHu 1000000011 8 77 77,M5 1000000011 78 78 3 2,zGx 1000000011 79 80 81 81,[⟨false,[],[1000000011],.det 1 (.load 79 [(0,2)] 0 (.t 81) 2 false),[82],(some 82),none⟩],zHx 1000000011 121 77 82 83 83,zMi 1000000011 2 83 76 83 76,D5 10 1000000011,pF 10 84 10 84] (zQ (.join [⟨8,bK,false⟩] 232113757366008801543587072 none (zS [au 86 11] (zC 86 (zR [[⟨false,[],[3000010001],.det 1 (.load 10 [] 0 .nil 2 false),[87,10],(some 87),none⟩],eB 8 8 87]) .skip))) (.join [⟨7,iL,false⟩] 19497555618744739329661206656 none (zR [bR 88 7 1,Cc 90 89 11 2,pu 90 91 92,M9 93 7 7 1 92])))))) (zR [ig 74 9 9])))))) (zS [yN 95 65 2 94] (zC 94 (zS [zIb 1000000013 1000000014 8 2 97 97,zMf 1000000013 1000000014 98 98 3 2,zIe 1000000013 1000000014 99 100 100,zIf 1000000013 1000000014 99 2 0 100 2 101 101,zKy 1000000013 1000000014 122 97 101 102 102 96 96,zIi 1000000013 1000000014 96 0 2 103 103,zLA 1000000013 1000000014 96 2 2 104 104 4 5,zIk 1000000014 12 1000000013 12,zIm 1000000013 13 1000000014 13,eB 12 12 103,eB 13 13 104,yL 14 105] (zQ (.join [⟨8,bK,false⟩] 486777830487640090174734030864640 none (zS [au 107 15] (zC 107 (zR [dP 108 12 2,eB 8 8 108]) .skip))) (zR [au 109 15,M9 110 7 7 1 109]))) (zS [yN 112 65 3 111] (zC 111 (zS [Bc 113 8 2 123,zIn 114 1 1 115 114,dK 115 16 115] (zS [bO 17] (.block 3 (.loop [⟨8,bK,false⟩,⟨7,iL,false⟩,⟨17,[.i .i64],false⟩] 1461501637330819841453948275474226531714665152896 (zQ (zS [au 116 17,gp 117 16,yJ 118 117 116] (zC 119 .skip (.exit 3))) (zQ (.join [⟨8,bK,false⟩,⟨7,iL,false⟩] 1461501637325586006220545169224667791414811165056 none (.block 4 (zQ (.join [⟨139,[.b],false⟩] 1393791257996180806682490776812281472745472 none (zR [gp 122 16,au 123 17,OI 124 122 123,YI 126 16 2 125,bR 127 3 3,pE 129 126 128,au 130 129,zIo 16 131 131 8,YP 132 17 8 131 8,xq 134 133 8,[o2 135 (.load 16 [(0,2)] 1 (.t 134) 1 false) 8 false],Ba 136 8 3 3 8,zDA 138 135 137 8,ru 130 138 139])) (zC 139 (zS [gp 142 16,au 143 17,dP 141 8 2,OJ 144 142 143 16 2 2,zMx 146 122 141 145 140,[o1 147 (.ext 140 0 2),o1 148 (.ext 140 2 2)],xh 149 140 4,xh 150 140 5,eB 8 8 147] (zR [gp 153 16,au 154 17,uA 151 7 2,OJ 155 153 154 16 2 2,zGh 157 156,YO 152 152 157 158 152 152 7 158 7 7 2])) .skip)))) (zR [JK 120 17]))))))) .skip))))))))) (zS [Bc 160 8 2 124,jy 162,zGf 7 161 7 3 162 161] (zS [bR 163 2 0,dP 165 8 2,iZ 166 7 4,[o1 167 (.build gN [(0,.t 164),(1,.t 165),(3,.t 166)])],gI 168 115 167,iZ 169 7 4,gI 170 120 169,iY 4 168 4 168,iY 5 170 5 170,bO 6] .ret))))))))
def anJ:aM:=⟨[.rd true OA,.rd true OC],(.tup [(true,7),(true,4),(false,1)] [.d,.d,.sl (.own none) [.d,.d,.d,.d],.d,.d,.sl (.own none) [.d,.d],.sl (.own none) [.d],.d,.d,.sl (.own none) [.d,.d],.sl (.own none) [.d],.d])⟩
def anK:aL:=aG [(118,Z0),(119,La),(115,LC),(120,vJ),(121,aeH),(122,aag),(123,xK),(124,Et)]
def Sz (n:Nat):jU × Eb->Option (Zt4 × Unit):=aI n anK anI [gN,kH] Ty4 [] [4,5,6] .no
def nK:=Sz BIG
def acB:TSp:=⟨anJ,[gN,kH],Ty4,[],Ou.j .no,nK⟩
theorem azQ:zK anK 40 anJ anI 171 .no [4,5,6]:=by show _=_;kernel_rfl
theorem aix:acB.Ok PG 40:=aQ (af alx (af T9 (af Uu (af Cf (af aqn (af alz (af Ai (af Np (az PG))))))))) azQ (by kernel_rfl)
theorem anL (n) (a0) (a1):Sz n (a0,a1) = ((CU a0).bind fun r0=> bif !r0.1 then some true else (CL (a0.2.1,a1)).bind fun r1=> bif !r1.1 then some true else bif !decide (a1.1=a0.2.2.2.1) then some (!decide (a1.1=(IntKind.wrap .i64 (a0.2.2.2.1+1)))) else some false).bind fun x2=> bif x2 then some (((0:Int),(0:Int),[],(0:Int),false,[],[],(0:Int),false,[],[],(1:Int)),()) else bif decide (a1.1=a0.2.2.2.1) then (p8 a0).bind fun r3=> (jD a0.2.2.2).bind fun r4=> some ((r3.1.1,r3.1.2.1,r3.1.2.2.1,r3.1.2.2.2.1,r3.1.2.2.2.2.1,r3.1.2.2.2.2.2.1,r3.1.2.2.2.2.2.2,r4.1.1,r4.1.2.1,r4.1.2.2.1,r4.1.2.2.2,(0:Int)),()) else ((bif decide (a1.2.1=1) then some true else some (decide (a1.2.1=4))).bind fun x5=> bif x5 then aK n (X:=eD × oV × Int) (B:=eD × oV) (fun self7 x6=> bif decide (x6.2.2<(a1.2.2.1.length:Int)) then (bnd a1.2.2.1.length x6.2.2 fun n8=> a1.2.2.1[n8]?.bind fun y9=> (Bi (x6.1,y9)).bind fun r10=> (bif r10.1.2.2 then some (r10.1.1,r10.1.2.1) else some x6.1).bind fun x11=> (bif x6.2.1.2.1 then some (x6.2.1.1,r10.1.2.2,x6.2.1.2.2) else some (x6.2.1.1,false,x6.2.1.2.2)).bind fun x12=> some (x11,x12):Option (eD × oV)).bind fun x13=> self7 (x13.1,x13.2,IntKind.wrap .i64 (x6.2.2+1)) else some (x6.1,x6.2.1)) ((a0.2.1,a0.2.2.1),(a1.1,true,[],[]),(0:Int)) else bif decide (a1.2.1=2) then bnd a1.2.2.1.length (0:Int) fun n14=> a1.2.2.1[n14]?.bind fun y15=> (kS ((a0.2.1,a0.2.2.1),y15)).bind fun r16=> (bif r16.1.2.2.2.2.2 then some (r16.1.1,r16.1.2.1) else some (a0.2.1,a0.2.2.1)).bind fun x17=> some (x17,(a1.1,r16.1.2.2.2.2.2,[],[])) else bif decide (a1.2.1=3) then (mf (a0.2.1,a0.2.2.1)).bind fun r18=> aK n (X:=eD × oV × Int) (B:=eD × oV) (fun self20 x19=> bif decide (x19.2.2<(r18.1.2.length:Int)) then ((bnd r18.1.2.length x19.2.2 fun n21=> r18.1.2[n21]?.bind fun y22=> bif decide (y22.1=a1.2.2.2) then some true else bnd r18.1.2.length x19.2.2 fun n23=> r18.1.2[n23]?.bind fun y24=> some (decide (y24.2=a1.2.2.2))).bind fun x25=> bif x25 then bnd r18.1.2.length x19.2.2 fun n26=> r18.1.2[n26]?.bind fun y27=> (kS (x19.1,y27)).bind fun r28=> bnd r18.1.2.length x19.2.2 fun n29=> r18.1.2[n29]?.bind fun y30=> bif decide (x19.2.1.2.2.1.length+[y30].length<=4294967296) then some ((r28.1.1,r28.1.2.1),(x19.2.1.1,x19.2.1.2.1,x19.2.1.2.2.1++[y30],x19.2.1.2.2.2)) else none else some (x19.1,x19.2.1):Option (eD × oV)).bind fun x31=> self20 (x31.1,x31.2,IntKind.wrap .i64 (x19.2.2+1)) else some (x19.1,x19.2.1)) ((a0.2.1,a0.2.2.1),(a1.1,true,[],[]),(0:Int)) else some ((a0.2.1,a0.2.2.1),(a1.1,true,[],[])):Option (eD × oV)).bind fun x32=> (mX x32.1).bind fun r33=> (p8 (a0.1,x32.1.1,x32.1.2,x32.2.1,x32.2.2.1,x32.2.2.2.1,r33.1)).bind fun r34=> (jD (x32.2.1,x32.2.2.1,x32.2.2.2.1,r33.1)).bind fun r35=> some ((r34.1.1,r34.1.2.1,r34.1.2.2.1,r34.1.2.2.2.1,r34.1.2.2.2.2.1,r34.1.2.2.2.2.2.1,r34.1.2.2.2.2.2.2,r35.1.1,r35.1.2.1,r35.1.2.2.1,r35.1.2.2.2,(0:Int)),()):=by kernel_rfl
def Uw:TC:=
 (zS [dN 4 1] (zS [dD 6,dD 7,au 14 2,su 8 7,JC 9 8,zGb 10 14 9,bR 11 4 0,dP 13 4 4,zGc 15 12 13 14,zGd 16 15,zBt 10 10 16 17 10 10 0 17,nD 18 6,zBu 0 17 10 0 14 19 17] (zR [dD 20,zGe 21,nD 22 20,zGf 0 21 0 5 23 21])))
def Ux:aM:=⟨[.mp [.d,.sl (.own none) [.d],.sl (.ro []) [.d,.d],.sl (.own none) fG,.sl (.own none) [.d],.d,.d,.d,.d,.d,.d,.d,.sl (.own none) [.d,.d],.d,.sl (.own none) awl],.rd true [.d,.d,.d,.d],.rd false [.d]],.u⟩
def Uy:aL:=aG []
def IA (n:Nat):eO × qP × Int->Option ((Unit) × Int × List Int × List aR × List (List Int) × List Int × Int × Int × Int × Int × Int × Int × Int × List aR × Int × List vD):=aI n Uy Uw [bE,fV,[.i .i64]] [] bE [] (.mp 0)
def Al:=IA BIG
def Uz:TSp:=⟨Ux,[bE,fV,[.i .i64]],[],bE,Ou.j (.mp 0),Al⟩
theorem alA:zK Uy 55 Ux Uw 24 (.mp 0) []:=by show _=_;kernel_rfl
theorem aiy:Uz.Ok PG 55:=aQ (az PG) alA (by kernel_rfl)
theorem alB (n) (a0) (a1) (a2):IA n (a0,a1,a2) = bif decide (a0.2.2.2.2.2.2.2.2.2.2.2.2.2.2.length+([(a1.1,a1.1,a1.2.1,a1.2.2.1,a1.2.2.2,a2)]).length<=4294967296) then some ((),(a0.1,a0.2.1,a0.2.2.1,a0.2.2.2.1,a0.2.2.2.2.1,(0:Int),(0:Int),(0:Int),(0:Int),(0:Int),(0:Int),(0:Int),[],(0:Int),a0.2.2.2.2.2.2.2.2.2.2.2.2.2.2++([(a1.1,a1.1,a1.2.1,a1.2.2.1,a1.2.2.2,a2)]))) else none:=by kernel_rfl
def aeI:TC:=
 (zS [A9 6] (zS [YJ 10,dK 10 7 10] (zQ (.join [⟨7,[.sl [.i .i64,.i .i64]],false⟩] 144115188075854720 none (zS [bO 8] (.block 0 (.loop [⟨7,[.sl [.i .i64,.i .i64]],false⟩,⟨8,[.i .i64],false⟩] 144115188075854720 (zQ (zS [Cb 11 8 1] (zC 14 .skip (.exit 0))) (zQ (.join [⟨7,[.sl [.i .i64,.i .i64]],false⟩] 144115188075725440 none (.block 1 (zS [TB 17 1 8 2 2,rC 9 1000000010,eB 9 9 20] (zQ (.join [⟨52,[.b],false⟩] 9007199252643840 none (zR [Gf 21 9 0 0,mr 24 23,yI 25 24,YK 26 42 22 25,uB 27 26 6 9 1 6,iJ 30 0 6,zHh 31 30 6,zMr 32 31 6 42 29 6,lN 27 33 34,iJ 36 0 14,A_ 37 14 9 0,rA 39 36 38 14,Ca 40 36 1 39 14,iJ 41 2 14,D7 42 40 41 14,lN 35 42 43,iJ 45 0 23,A_ 46 23 9 1,rA 48 45 47 23,Ca 49 45 1 48 23,iJ 50 2 23,D7 51 49 50 23,pu 44 51 52])) (zC 52 (zR [dK 7 53 7,dP 54 9 2,JL 55 54 53 53 7]) .skip))))) (zR [ig 15 8 8]))))))) (zS [t_ 7 57 7 6] .ret))))
def aeJ:aM:=⟨[.rd false fG,.rd false iM,.rd false [.d]],(.one false iM)⟩
def aeK:aL:=aG [(42,fI)]
def PN (n:Nat):List Int × (List aR) × Int->Option ((List aR) × Unit):=aI n aeK aeI [[.sl [.i .i64]],[.sl [.i .i64,.i .i64]],[.i .i64]] [.sl [.i .i64,.i .i64]] [] [6] .no
def PP:=PN BIG
def aeL:TSp:=⟨aeJ,[[.sl [.i .i64]],[.sl [.i .i64,.i .i64]],[.i .i64]],[.sl [.i .i64,.i .i64]],[],Ou.j .no,PP⟩
theorem atP:zK aeK 163 aeJ aeI 58 .no [6]:=by show _=_;kernel_rfl
theorem aqr:aeL.Ok PG 163:=aQ (af eX (az PG)) atP (by kernel_rfl)
theorem atQ (n) (a0) (a1) (a2):PN n (a0,a1,a2) = (aK n (X:=(List aR) × Int) (B:=(List aR)) (fun self1 x0=> bif decide (x0.2<(a1.length:Int)) then (bnd a1.length x0.2 fun n2=> a1[n2]?.bind fun y3=> ((bH (y3.1,(0:Int),IntKind.wrap .i64 ((a0.length:Int)-1))).bind fun r4=> bif r4.1 then (bH (y3.2,(0:Int),IntKind.wrap .i64 ((a0.length:Int)-1))).bind fun r5=> bif r5.1 then bnd a0.length y3.1 fun n6=> a0[n6]?.bind fun y7=> bif decide (y7=a2) then bnd a0.length y3.2 fun n8=> a0[n8]?.bind fun y9=> some (decide (y9=a2)) else some false else some false else some false).bind fun x10=> bif x10 then bif decide (x0.1.length+[y3].length<=4294967296) then some (x0.1++[y3]) else none else some x0.1:Option ((List aR))).bind fun x11=> self1 (x11,IntKind.wrap .i64 (x0.2+1)) else some x0.1) ([],(0:Int))).bind fun x12=> some (x12,()):=by kernel_rfl
def PQ:TC:=
 (zS [dN 5 1,[o5 (.a (.t 3)) 7 3],bO 8] (zS [dD 9,Bb 10 9 4,au 13 2,yI 14 13,Gb 15 12 14 0 4 1,BZ 17 16,M9 18 7 7 0 17] (zS [yM 19 5 4,au 21 2,iZ 22 7 4,zGj,nD 24 19,zGk] (zS [nZ 8 2] .ret))))
def PR:aM:=⟨[.mp [.d,.sl (.own none) [.d],.sl (.ro []) [.d,.d],.sl (.own none) fG,.sl (.own none) [.d],.d,.d,.d,.d,.d,.d,.d,.sl (.own none) [.d,.d],.d,.sl (.own none) awl],.rd true [.d,.d,.d,.d],.rd false [.d],.tk true OC],(.one false [.d])⟩
def PS:aL:=aG []
def Ez (n:Nat):eO × qP × Int × Eb->Option ((Int) × Int × List Int × List aR × List (List Int) × List Int × Int × Int × Int × Int × Int × Int × Int × List aR × Int × List vD):=aI n PS PQ [bE,fV,[.i .i64],kH] [.i .i64] bE [8] (.mp 0)
def EA:=Ez BIG
def PT:TSp:=⟨PR,[bE,fV,[.i .i64],kH],[.i .i64],bE,Ou.j (.mp 0),EA⟩
theorem aiz:zK PS 57 PR PQ 26 (.mp 0) [8]:=by show _=_;kernel_rfl
theorem af6:PT.Ok PG 57:=aQ (az PG) aiz (by kernel_rfl)
theorem aiA (n) (a0) (a1) (a2) (a3):Ez n (a0,a1,a2,a3) = bnd a0.2.2.2.2.1.length (IntKind.wrap .i64 (a2-1)) fun n0=> a0.2.2.2.2.1[n0]?.bind fun y1=> some ((2:Int),(a0.1,a0.2.1,a0.2.2.1,a0.2.2.2.1,a0.2.2.2.2.1,a1.1,a1.2.1,a1.2.2.1,a1.2.2.2,a2,IntKind.wrap .i64 (y1+1),a3.2.1,a3.2.2.1,a3.2.2.2,a0.2.2.2.2.2.2.2.2.2.2.2.2.2.2)):=by kernel_rfl
def UA:TC:=
 (zS [dN 4 1,bO 6] (zS [dD 11,TF 12 11 0 2,au 7 14] (zQ (.join [⟨0,bE,false⟩,⟨7,[.sl [.i .i64,.i .i64]],false⟩] 68719444417 (some [⟨6,[.i .i64],false⟩,⟨0,bE,false⟩]) (zS [bO 8] (.block 0 (.loop [⟨0,bE,false⟩,⟨7,[.sl [.i .i64,.i .i64]],false⟩,⟨8,[.i .i64],false⟩] 68719444417 (zQ (zS [Cb 15 8 2] (zC 18 .skip (.exit 0))) (zQ (.block 1 (zQ (zS [dz 21 7 2,au 23 8,kW 24 22 23 2 2,jO 26 143 21 25] (zC 26 (zS [yM 27 4 4,OH 55 0 28 3 29 0 29] (zS [nZ 6 1] .ret)) .skip)) (zR [dz 30 7 2,au 32 8,kW 33 31 32 2 2,jO 35 130 30 34,zIp 35 35 7 35 7]))) (zR [ig 19 8 8]))))))) (zS [Ga 36 1,pG 40 4 2 4 3,xg 44 39 41,zBg 0 39 0 1 1 0 44 43] (zS [dD 45,au 49 7,Bb 46 45 1,bR 50 4 3,D9 52 163 48 49 51,dK 52 9 52] (zQ (.join [⟨7,[.sl [.i .i64,.i .i64]],false⟩] 36884480948164363392 none (zS [bO 10] (.block 2 (.loop [⟨7,[.sl [.i .i64,.i .i64]],false⟩,⟨10,[.i .i64],false⟩] 36884480948164363392 (zQ (zS [au 53 10,gp 54 9,yJ 55 54 53] (zC 56 .skip (.exit 2))) (zQ (.block 3 (zR [au 59 7,gp 60 9,au 61 10,OJ 62 60 61 9 2 2,jO 64 131 59 63,zIp 64 64 7 64 7])) (zR [JK 57 10]))))))) (zS [dD 65,au 66 7,nD 67 65,[o4 1 [0,44,48] (.store 0 [] 2 (.t 68) (.t 66))]] (zQ (zS [gp 69 9,mr 70 69,xm 71 70 0] (zC 71 (zS [yM 72 4 4,OH 55 0 73 1 74 0 74] (zS [nZ 6 1] .ret)) .skip)) (zS [yM 75 4 4,bR 77 4 3,zIq 9 79 9 54 69 79,zIr 4 79 80 79 80,zGA 57 0 76 78 80 81 0 80 81,au 6 81] .ret)))))))))
def UB:aM:=⟨[.mp [.d,.sl (.own none) [.d],.sl (.ro []) [.d,.d],.sl (.own none) fG,.sl (.own none) [.d],.d,.d,.d,.d,.d,.d,.d,.sl (.own none) [.d,.d],.d,.sl (.own none) awl],.rd true [.d,.d,.d,.d],.rd false iM],(.one false [.d])⟩
def UC:aL:=aG [(143,Bf),(55,Uz),(130,GA),(163,aeL),(131,BK),(57,PT)]
def IB (n:Nat):eO × qP × (List aR)->Option ((Int) × Int × List Int × List aR × List (List Int) × List Int × Int × Int × Int × Int × Int × Int × Int × List aR × Int × List vD):=aI n UC UA [bE,fV,[.sl [.i .i64,.i .i64]]] [.i .i64] bE [6] (.mp 0)
def IC:=IB BIG
def UD:TSp:=⟨UB,[bE,fV,[.sl [.i .i64,.i .i64]]],[.i .i64],bE,Ou.j (.mp 0),IC⟩
theorem alC:zK UC 81 UB UA 82 (.mp 0) [6]:=by show _=_;kernel_rfl
theorem aiB:UD.Ok PG 81:=aQ (af CP (af aiy (af Lh (af aqr (af JR (af af6 (az PG))))))) alC (by kernel_rfl)
theorem alD (n) (a0) (a1) (a2):IB n (a0,a1,a2) = (aK n (X:=eO × (List aR) × Int) (B:=(eO × (List aR)) ⊕ Zt0) (fun self1 x0=> bif decide (x0.2.2<(a2.length:Int)) then bnd a2.length x0.2.2 fun n2=> a2[n2]?.bind fun y3=> (ww (x0.2.1,y3)).bind fun r4=> bif r4.1 then (Al (x0.1,a1,(3:Int))).bind fun r5=> some (Sum.inr ((1:Int),r5.2)) else bnd a2.length x0.2.2 fun n6=> a2[n6]?.bind fun y7=> (Bg (x0.2.1,y7)).bind fun r8=> self1 (x0.1,r8.1,IntKind.wrap .i64 (x0.2.2+1)) else some (Sum.inl (x0.1,x0.2.1))) (a0,a0.2.2.1,(0:Int))).bind fun y=>match y with | .inl x9=> bnd x9.1.2.1.length a1.2.2.1 fun n10=> x9.1.2.1[n10]?.bind fun y11=> (PP (x9.1.2.1.set n10 a1.2.2.2,x9.2,a1.2.2.2)).bind fun r12=> (aK n (X:=(List aR) × Int) (B:=(List aR)) (fun self14 x13=> bif decide (x13.2<(r12.1.length:Int)) then bnd r12.1.length x13.2 fun n15=> r12.1[n15]?.bind fun y16=> (uR (x13.1,y16)).bind fun r17=> self14 (r17.1,IntKind.wrap .i64 (x13.2+1)) else some x13.1) (x9.2,(0:Int))).bind fun x18=> bif decide ((r12.1.length:Int)=0) then (Al ((x9.1.1,x9.1.2.1.set n10 a1.2.2.2,x18,x9.1.2.2.2),a1,(1:Int))).bind fun r19=> some ((1:Int),r19.2) else (EA ((x9.1.1,x9.1.2.1.set n10 a1.2.2.2,x18,x9.1.2.2.2),a1,a1.2.2.2,((0:Int),(4:Int),r12.1,(0:Int)))).bind fun r20=> some (r20.1,r20.2) | .inr x9=> some (x9.1,x9.2):=by kernel_rfl
def anM:TC:=
 (zS [dN 3 0,dN 5 2,qi 6 1000000007,bO 7] (zS [Bc 12 3 15 51,qi 8 1000000009,iY 8 13 8 13] (zQ (.seq (.join [⟨44,[.b],false⟩] 35184372072448 none (zR [dP 14 3 15,gI 15 52 14,Na 16 15 3 3 0 3,TD 20 5 4 3 80 19 3,D_ 22 21 3 17,D8 25 3 15 10,Tq 39 25 26 26 10,D_ 27 26 10 24,jN 30 1 15,n_ 31 15,xq 32 31 15,F9 33 3 9 32 15,JJ 34 30 33 15 29,au 36 35,JH 37 22 5 0,n_ 39 22,xq 40 39 22,xq 41 40 22,F9 42 3 10 41 22,JJ 43 38 42 22 36])) (zC 44 (zS [xu 45 8 15 6 6 8,bO 7] .ret) .skip)) (zS [Gc 46 3 5 9,zEw 9 1000000010,eB 9 9 47] (zS [uA 48 8 4,au 50 1,yI 51 50,bR 52 5 0,xg 54 49 51,zBg 8 49 8 4 1 0 54 53] (zS [au 57 1,uA 55 8 3,yI 58 57,zBa 59,bR 60 5 3,yG 59 61 62 59,xg 63 56 58,[o4 2 [8,62,48,54,63,56,55] (.store 8 [(3,1)] 0 (.t 63) (.t 62))]] (zQ (.seq (.join [⟨73,[.b],false⟩] 18871019187404871303168 none (zR [YQ 64 9 1,xm 67 66 4,au 68 67,ry 69 4,JF 70 69 4,B_ 71 9 6 70 4,zIs 72 71 3 4,pu 68 72 73])) (zC 73 (zS [Gc 74 9 0 4,bR 76 5 2,[⟨false,[],[3000008002],.call 2 81 [.t 8,.t 75,.t 77] (.mp 0),[78,8,8],(some 78),none⟩],au 10 78] (zS [iZ 79 8 15,gI 80 51 79,au 81 10,pF 6 80 6 80] .ret)) .skip)) (zS [nZ 11 1] (zQ (.join [⟨11,[.i .i64],false⟩] 2471044375292302033099425792 none (zQ (.join [⟨90,[.b],false⟩] 2471044375292302033099423744 none (zR [YQ 82 9 1,zDi 85 84 4,uB 86 85 4 5 1 4,zEc 89 88 4,pu 86 89 90])) (zC 90 (zR [nZ 11 2]) .skip))) (zS [Gc 91 9 0 4,au 93 11,zGt 55 8 92 93 94 8 94] (zS [xu 95 8 15 6 6 8,nZ 7 1] .ret)))))))))))
def anN:aM:=⟨[.rd true pq,.rd false [.d],.rd true M0],(.tup [(true,15),(false,1)] Ct0)⟩
def anO:aL:=aG [(51,CG),(52,Pe),(80,Iz),(39,Sy),(81,UD),(55,Gy)]
def acC (n:Nat):eO × Int × oV->Option (Zt2 × Unit):=aI n anO anM [bE,[.i .i64],iL] Ty0 [] [6,7] .no
def zz:=acC BIG
def acD:TSp:=⟨anN,[bE,[.i .i64],iL],Ty0,[],Ou.j .no,zz⟩
theorem azR:zK anO 19 anN anM 96 .no [6,7]:=by show _=_;kernel_rfl
theorem aiC:acD.Ok PG 19:=aQ (af Ij (af Zp (af Pq (af WS (af aiB (af Lb (az PG))))))) azR (by kernel_rfl)
theorem azS (n) (a0) (a1) (a2):acC n (a0,a1,a2) = (og a0).bind fun r0=> ((Be a0).bind fun r1=> bif !r1.1 then some true else (Ak (a0.1,a2)).bind fun r2=> bif !r2.1 then some true else (Dm a0).bind fun r3=> bif !r3.1 then some true else bif !decide (a1=a0.2.2.2.2.2.2.2.2.2.1) then some true else some (!decide (a2.1=a0.2.2.2.2.2.2.2.2.2.2.1))).bind fun x4=> bif x4 then some ((r0.1.1,r0.1.2.1,r0.1.2.2.1,r0.1.2.2.2.1,r0.1.2.2.2.2.1,r0.1.2.2.2.2.2.1,r0.1.2.2.2.2.2.2.1,r0.1.2.2.2.2.2.2.2.1,r0.1.2.2.2.2.2.2.2.2.1,r0.1.2.2.2.2.2.2.2.2.2.1,r0.1.2.2.2.2.2.2.2.2.2.2.1,r0.1.2.2.2.2.2.2.2.2.2.2.2.1,r0.1.2.2.2.2.2.2.2.2.2.2.2.2.1,r0.1.2.2.2.2.2.2.2.2.2.2.2.2.2.1,r0.1.2.2.2.2.2.2.2.2.2.2.2.2.2.2,(0:Int)),()) else bnd r0.1.2.2.2.2.1.length (IntKind.wrap .i64 (a1-1)) fun n5=> r0.1.2.2.2.2.1[n5]?.bind fun y6=> bif decide (0+a2.2.2.2.length<=4294967296) then bnd r0.1.2.2.2.1.length (IntKind.wrap .i64 (a1-1)) fun n7=> r0.1.2.2.2.1[n7]?.bind fun y8=> (bif decide (a0.2.2.2.2.2.2.1=4) then some (decide (a0.2.2.2.2.2.2.2.2.2.2.2.1=3)) else some false).bind fun x9=> bif x9 then (IC ((r0.1.1,r0.1.2.1,r0.1.2.2.1,r0.1.2.2.2.1.set n7 ([]++a2.2.2.2),r0.1.2.2.2.2.1.set n5 a2.1,r0.1.2.2.2.2.2),(a0.2.2.2.2.2.1,a0.2.2.2.2.2.2.1,a0.2.2.2.2.2.2.2.1,a0.2.2.2.2.2.2.2.2.1),a2.2.2.1)).bind fun r10=> (og r10.2).bind fun r11=> some ((r11.1.1,r11.1.2.1,r11.1.2.2.1,r11.1.2.2.2.1,r11.1.2.2.2.2.1,r11.1.2.2.2.2.2.1,r11.1.2.2.2.2.2.2.1,r11.1.2.2.2.2.2.2.2.1,r11.1.2.2.2.2.2.2.2.2.1,r11.1.2.2.2.2.2.2.2.2.2.1,r11.1.2.2.2.2.2.2.2.2.2.2.1,r11.1.2.2.2.2.2.2.2.2.2.2.2.1,r11.1.2.2.2.2.2.2.2.2.2.2.2.2.1,r11.1.2.2.2.2.2.2.2.2.2.2.2.2.2.1,r11.1.2.2.2.2.2.2.2.2.2.2.2.2.2.2,r10.1),()) else ((bif !decide (a0.2.2.2.2.2.2.1=4) then some !a2.2.1 else some false).bind fun x12=> bif x12 then some (2:Int) else some (1:Int)).bind fun x13=> (pI ((r0.1.1,r0.1.2.1,r0.1.2.2.1,r0.1.2.2.2.1.set n7 ([]++a2.2.2.2),r0.1.2.2.2.2.1.set n5 a2.1,r0.1.2.2.2.2.2),(a0.2.2.2.2.2.1,a0.2.2.2.2.2.2.1,a0.2.2.2.2.2.2.2.1,a0.2.2.2.2.2.2.2.2.1),x13)).bind fun r14=> some ((r14.2.1,r14.2.2.1,r14.2.2.2.1,r14.2.2.2.2.1,r14.2.2.2.2.2.1,r14.2.2.2.2.2.2.1,r14.2.2.2.2.2.2.2.1,r14.2.2.2.2.2.2.2.2.1,r14.2.2.2.2.2.2.2.2.2.1,r14.2.2.2.2.2.2.2.2.2.2.1,r14.2.2.2.2.2.2.2.2.2.2.2.1,r14.2.2.2.2.2.2.2.2.2.2.2.2.1,r14.2.2.2.2.2.2.2.2.2.2.2.2.2.1,r14.2.2.2.2.2.2.2.2.2.2.2.2.2.2.1,r14.2.2.2.2.2.2.2.2.2.2.2.2.2.2.2,(1:Int)),()) else none:=by kernel_rfl
def aah:TC:=
 (zS [bO 6,bO 7,zIt 8] (zS [dD 28,zAz 116 29 29,au 9 29] (zS [dD 30,zAB 0 3 31 0 31,zAe 32 1 31,au 10 32] (zS [[o1 33 (.sli Ty6 [])],dK 33 11 33] (zS [[o1 34 (.sli Ty6 [])],zIu 34 34 12 34 34 12] (zS [yL 36 9,jO 38 110 36 37,Ty 38 35 38 15,qi 13 1000000014,pF 13 39 13 39] (zS [[⟨false,[],[3000013012],.det 1 (.sli gN []),[41,13],(some 41),none⟩],dK 41 15 41] (zQ (.join [⟨15,Ty7,false⟩] 144110790029836288 none (zS [nZ 16 1] (.block 0 (.loop [⟨15,Ty7,false⟩,⟨16,[.i .i64],false⟩] 144110790029836288 (zQ (zS [dz 42 16 10,[o1 44 (.data (.bin .leq) [.t 42,.t 43])]] (zC 44 .skip (.exit 0))) (zQ (.block 1 (zS [dz 48 16 9,jO 50 114 48 49,Ea 50 47 50 7 7,D6 17 1000000018,pF 17 51 17 51] (zR [dK 15 53 15,iZ 54 17 7,[⟨false,[54],[],.det 2 (.sli gN [.t 54]),[55,54,54,17],(some 55),none⟩],zDr 53 55 56 53 55 56,dK 56 15 56]))) (zR [JK 45 16]))))))) (zQ (.join [⟨0,gZ,false⟩,⟨11,yE,false⟩,⟨12,yE,false⟩] 11150372599265311570767858992208992945092609 none (zS [bO 19] (.block 2 (.loop [⟨0,gZ,false⟩,⟨13,bE,false⟩,⟨11,yE,false⟩,⟨15,Ty7,false⟩,⟨12,yE,false⟩,⟨19,[.i .i64],false⟩] 11150372599265311570767858992208992945092609 (zQ (zS [au 57 19,dD 58,au 59 1,gI 60 117 59,zDg 61 60 2,Tp 112 61 62 62,zAe 63 2 62,gH 64 57 63] (zC 64 .skip (.exit 2))) (zQ (.join [⟨0,gZ,false⟩,⟨13,bE,false⟩,⟨11,yE,false⟩,⟨15,Ty7,false⟩,⟨12,yE,false⟩] 11150372599265311570767711562371591344011265 none (.block 3 (zQ (zS [iZ 67 13 15,gI 68 39 67,jT 69 68] (zC 69 (zS [dD 70,au 71 9,dz 72 10 19,BZ 74 73,[⟨false,[],[],.call 2 41 [.t 0,.t 71,.t 72,.t 74] (.mp 0),[75,0],(some 75),none⟩],zDk 20 1000000021,eB 20 20 75] (zS [iZ 77 13 15,yK 78 20 4 11 77,Ty 79 76 79 15,qi 21 1000000022,pF 21 80 21 80] (zQ (.join [⟨13,bE,false⟩,⟨11,yE,false⟩] 1267645915788252347398329739264 none (zQ (.join [⟨21,bE,false⟩,⟨93,[.b],false⟩] 19802204925287625881689260032 none (zR [zHy 3000021012 1 22 82 21 82,zDi 83 82 0,uB 84 83 2 20 2 2,[o2 87 (.data (.bin .geq) [.t 86,kD 0]) 2 true],lN 84 87 88,wh 90 7 20 3 7,[o2 92 (.data (.bin .geq) [.t 91,kD 0]) 7 true],pu 89 92 93])) (zC 93 (zS [iZ 94 21 15,[⟨false,[94],[],.det 2 (.store 13 [] 0 .nil (.t 94)),[13,94,94,21,67,77],none,none⟩]] (zR [dK 11 95 11,dP 96 20 4,zIv 1 1 96 97,zIw 97 98 97,zDr 95 98 99 95 98 99,dK 99 11 99])) .skip))) (.exit 3)))) .skip)) (zS [YQ 100 13 9,au 23 102] (zS [zLo 103,JE 105 13 10 104 4,zDp 24 1000000025,eB 24 24 105] (zS [Gd 107 15 23,[⟨false,[],[1000000026,1000000027],.det 1 (.data (.bin .sub) [.t 108,kD 1]),[109],(some 109),none⟩],zIx 1000000026 1000000027 107 109 110 110,[⟨false,[],[1000000026,1000000027],.det 1 (.load 15 [(0,7)] 0 (.t 110) 7 true),[111],(some 111),none⟩],zIb 1000000026 1000000027 24 4 112 112,zKz 1000000026 1000000027 40 111 112 113 113 106 106 0 7,zIy 1000000026 1000000027 106 7 4 115 106 115,zIj 1000000026 1000000027 106 11 116 116,zIz 1000000027 25 1000000026 25,zIA 1000000026 26 1000000027 26,iY 25 114 25 114,pF 26 115 26 115] (zS [Gd 117 15 23,yI 119 118,iZ 120 25 7,xg 121 117 119,[⟨false,[120],[],.det 2 (.store 15 [(0,7)] 0 (.t 121) (.t 120)),[15,120,120,25,107,110,111,121,117],none,none⟩]] (zQ (.join [⟨12,yE,false⟩] 1355812555700614190361883201485951471616 none (zS [dz 122 23 2,pE 124 122 123] (zC 124 (zR [dK 12 125 12,dP 126 24 4,zIv 3 10 126 127,zIw 127 128 127,zIB 128 125 128 129 125 128 129,dK 129 12 129]) .skip))) (zS [iZ 131 13 15,au 132 23,iZ 133 26 4,D9 134 19 131 132 133,Ty 134 130 134 15,[o4 2 [13,135,67,131] (.store 13 [] 0 .nil (.t 135))]] (zR [[⟨false,[],[3000013012],.det 2 (.copy 11),[137,11,13,100,101,103,104],(some 137),none⟩],au 138 23,iZ 139 26 4,[⟨false,[139],[],.det 3 (.build Ty6 [(0,kO 2),(5,.t 138),(6,.t 139)]),[140,1000000001,139,139,26,133],(some 140),none⟩],zIw 140 141 140,zDr 137 141 142 137 141 142,dK 142 11 142])))))))))) (zR [JK 65 19]))))))) (zQ (zS [au 143 2,YH 144 143 0] (zC 144 (zS [yL 145 9,dK 12 147 12,yL 6 145,dK 147 8 147] .ret) .skip)) (zS [yL 148 9,dK 11 150 11,yL 6 148,zIu 150 150 8 150 150 8] .ret)))))))))))
def aai:aM:=⟨[.mp [.sl (.ro []) [.d],.d,.d],.rd false fG,.rd false [.d]],(.tup [(false,1),(false,1),(false,1)] [.d,.d,.sl (.own none) [.d,.d,.d,.d,.d,.d,.d,.d,.sl (.ro []) [.d,.d],.sl (.ro []) [.d],.d,.d,.sl (.ro []) [.d,.d],.d]])⟩
def aaj:aL:=aG [(116,anA),(112,mD),(110,K3),(114,Ii),(117,Y5),(39,Sy),(41,ad9),(11,acz),(40,acB),(19,acD)]
def LK (n:Nat):(List Int × Int × Int) × List Int × Int->Option (Zt5 × List Int × Int × Int):=aI n aaj aah [gZ,[.sl [.i .u8]],[.i .i64]] Ty3 gZ [6,7,8] (.mp 0)
def CW:=LK BIG
def LM:TSp:=⟨aai,[gZ,[.sl [.i .u8]],[.i .i64]],Ty3,gZ,Ou.j (.mp 0),CW⟩
theorem aqs:zK aaj 108 aai aah 151 (.mp 0) [6,7,8]:=by show _=_;kernel_rfl
theorem UE:LM.Ok PG 108:=aQ (af awm (af mW (af TM (af OZ (af ald (af WS (af apP (af ail (af aix (af aiC (az PG))))))))))) aqs (by kernel_rfl)
theorem aqt (n) (a0) (a1) (a2):LK n (a0,a1,a2) = (Sw a0).bind fun r0=> (fH (r0.2,(3:Int))).bind fun r1=> (tL (r0.1,IntKind.wrap .i64 ((1:Int)+r1.1))).bind fun r2=> (aK n (X:=(List Zt9) × Int) (B:=(List Zt9)) (fun self4 x3=> bif decide (x3.2<=(IntKind.wrap .i64 ((1:Int)+r1.1))) then (Ag (x3.2,r0.1)).bind fun r5=> bif decide (x3.1.length+([(r5.1.1,r5.1.2.1,r5.1.2.2.1,r5.1.2.2.2.1,r5.1.2.2.2.2.1,r5.1.2.2.2.2.2.1,r5.1.2.2.2.2.2.2.1)]).length<=4294967296) then self4 (x3.1++([(r5.1.1,r5.1.2.1,r5.1.2.2.1,r5.1.2.2.2.1,r5.1.2.2.2.2.1,r5.1.2.2.2.2.2.1,r5.1.2.2.2.2.2.2.1)]),IntKind.wrap .i64 (x3.2+1)) else none else some x3.1) ([],(1:Int))).bind fun x6=> (aK n (X:=(List Int × Int × Int) × eO × (List YU) × (List Zt9) × (List YU) × Int) (B:=(List Int × Int × Int) × (List YU) × (List YU)) (fun self8 x7=> (K5 a1).bind fun r9=> bif decide (2=0) then none else (fH (x7.1,IntKind.wrap .i64 (Int.tdiv r9.1 (2:Int)))).bind fun r10=> bif decide (x7.2.2.2.2.2<(IntKind.wrap .i64 ((2:Int)+r10.1))) then ((Dm x7.2.1).bind fun r11=> bif !r11.1 then (O1 (r10.2,r0.1,IntKind.wrap .i64 ((1:Int)+r1.1),IntKind.wrap .i64 (x7.2.2.2.2.2+1))).bind fun r12=> (Dp (x7.2.1,r12.1)).bind fun r13=> ((bif !decide (r13.1.2.2.2.2.2.2.2.2.2.2.2.2.2.2.2=0) then bif decide (0<=r12.1.2.2.1) then some ((r13.1.1,r13.1.2.1,r13.1.2.2.1,r13.1.2.2.2.1,r13.1.2.2.2.2.1,r13.1.2.2.2.2.2.1,r13.1.2.2.2.2.2.2.1,r13.1.2.2.2.2.2.2.2.1,r13.1.2.2.2.2.2.2.2.2.1,r13.1.2.2.2.2.2.2.2.2.2.1,r13.1.2.2.2.2.2.2.2.2.2.2.1,r13.1.2.2.2.2.2.2.2.2.2.2.2.1,r13.1.2.2.2.2.2.2.2.2.2.2.2.2.1,r13.1.2.2.2.2.2.2.2.2.2.2.2.2.2.1,r13.1.2.2.2.2.2.2.2.2.2.2.2.2.2.2.1),decide (0<=r12.1.2.2.2)) else some ((r13.1.1,r13.1.2.1,r13.1.2.2.1,r13.1.2.2.2.1,r13.1.2.2.2.2.1,r13.1.2.2.2.2.2.1,r13.1.2.2.2.2.2.2.1,r13.1.2.2.2.2.2.2.2.1,r13.1.2.2.2.2.2.2.2.2.1,r13.1.2.2.2.2.2.2.2.2.2.1,r13.1.2.2.2.2.2.2.2.2.2.2.1,r13.1.2.2.2.2.2.2.2.2.2.2.2.1,r13.1.2.2.2.2.2.2.2.2.2.2.2.2.1,r13.1.2.2.2.2.2.2.2.2.2.2.2.2.2.1,r13.1.2.2.2.2.2.2.2.2.2.2.2.2.2.2.1),false) else some ((r13.1.1,r13.1.2.1,r13.1.2.2.1,r13.1.2.2.2.1,r13.1.2.2.2.2.1,r13.1.2.2.2.2.2.1,r13.1.2.2.2.2.2.2.1,r13.1.2.2.2.2.2.2.2.1,r13.1.2.2.2.2.2.2.2.2.1,r13.1.2.2.2.2.2.2.2.2.2.1,r13.1.2.2.2.2.2.2.2.2.2.2.1,r13.1.2.2.2.2.2.2.2.2.2.2.2.1,r13.1.2.2.2.2.2.2.2.2.2.2.2.2.1,r13.1.2.2.2.2.2.2.2.2.2.2.2.2.2.1,r13.1.2.2.2.2.2.2.2.2.2.2.2.2.2.2.1),false)).bind fun x14=> bif x14.2 then bif decide (x7.2.2.1.length+([((1:Int),r12.1.1,r12.1.2.1,r12.1.2.2.1,r12.1.2.2.2,(0:Int),(0:Int),false,([]:List aR),([]:List Int),(0:Int),(0:Int),([]:List aR),(0:Int))]).length<=4294967296) then some (x14.1,x7.2.2.1++([((1:Int),r12.1.1,r12.1.2.1,r12.1.2.2.1,r12.1.2.2.2,(0:Int),(0:Int),false,[],[],(0:Int),(0:Int),[],(0:Int))])) else none else some (x7.2.1,x7.2.2.1):Option (eO × (List YU))).bind fun x15=> some (r12.2,x15.1,x15.2,x7.2.2.2.1,x7.2.2.2.2.1) else bnd x7.2.2.2.1.length (IntKind.wrap .i64 (x7.2.1.2.2.2.2.2.2.2.2.2.1-1)) fun n16=> x7.2.2.2.1[n16]?.bind fun y17=> (nK (y17,(x7.2.1.2.2.2.2.2.2.2.2.2.2.1,x7.2.1.2.2.2.2.2.2.2.2.2.2.2.1,x7.2.1.2.2.2.2.2.2.2.2.2.2.2.2.1,x7.2.1.2.2.2.2.2.2.2.2.2.2.2.2.2.1))).bind fun r18=> bnd x7.2.2.2.1.length (IntKind.wrap .i64 (x7.2.1.2.2.2.2.2.2.2.2.2.1-1)) fun n19=> x7.2.2.2.1[n19]?.bind fun y20=> (bif decide (x7.2.1.2.2.2.2.2.2.2.2.2.1=a2) then bif decide (x7.2.2.2.2.1.length+([((3:Int),(0:Int),(0:Int),(0:Int),(0:Int),(0:Int),(0:Int),false,([]:List aR),([]:List Int),x7.2.1.2.2.2.2.2.2.2.2.2.2.1,x7.2.1.2.2.2.2.2.2.2.2.2.2.2.1,x7.2.1.2.2.2.2.2.2.2.2.2.2.2.2.1,x7.2.1.2.2.2.2.2.2.2.2.2.2.2.2.2.1)]).length<=4294967296) then some (x7.2.2.2.2.1++([((3:Int),(0:Int),(0:Int),(0:Int),(0:Int),(0:Int),(0:Int),false,[],[],x7.2.1.2.2.2.2.2.2.2.2.2.2.1,x7.2.1.2.2.2.2.2.2.2.2.2.2.2.1,x7.2.1.2.2.2.2.2.2.2.2.2.2.2.2.1,x7.2.1.2.2.2.2.2.2.2.2.2.2.2.2.2.1)])) else none else some x7.2.2.2.2.1:Option ((List YU))).bind fun x21=> (zz (x7.2.1,x7.2.1.2.2.2.2.2.2.2.2.2.1,(r18.1.2.2.2.2.2.2.2.1,r18.1.2.2.2.2.2.2.2.2.1,r18.1.2.2.2.2.2.2.2.2.2.1,r18.1.2.2.2.2.2.2.2.2.2.2.1))).bind fun r22=> bif decide (x7.2.2.1.length+([((2:Int),(0:Int),(0:Int),(0:Int),(0:Int),x7.2.1.2.2.2.2.2.2.2.2.2.1,r18.1.2.2.2.2.2.2.2.1,r18.1.2.2.2.2.2.2.2.2.1,r18.1.2.2.2.2.2.2.2.2.2.1,r18.1.2.2.2.2.2.2.2.2.2.2.1,(0:Int),(0:Int),([]:List aR),(0:Int))]).length<=4294967296) then some (r10.2,(r22.1.1,r22.1.2.1,r22.1.2.2.1,r22.1.2.2.2.1,r22.1.2.2.2.2.1,r22.1.2.2.2.2.2.1,r22.1.2.2.2.2.2.2.1,r22.1.2.2.2.2.2.2.2.1,r22.1.2.2.2.2.2.2.2.2.1,r22.1.2.2.2.2.2.2.2.2.2.1,r22.1.2.2.2.2.2.2.2.2.2.2.1,r22.1.2.2.2.2.2.2.2.2.2.2.2.1,r22.1.2.2.2.2.2.2.2.2.2.2.2.2.1,r22.1.2.2.2.2.2.2.2.2.2.2.2.2.2.1,r22.1.2.2.2.2.2.2.2.2.2.2.2.2.2.2.1),x7.2.2.1++([((2:Int),(0:Int),(0:Int),(0:Int),(0:Int),x7.2.1.2.2.2.2.2.2.2.2.2.1,r18.1.2.2.2.2.2.2.2.1,r18.1.2.2.2.2.2.2.2.2.1,r18.1.2.2.2.2.2.2.2.2.2.1,r18.1.2.2.2.2.2.2.2.2.2.2.1,(0:Int),(0:Int),[],(0:Int))]),x7.2.2.2.1.set n19 (r18.1.1,r18.1.2.1,r18.1.2.2.1,r18.1.2.2.2.1,r18.1.2.2.2.2.1,r18.1.2.2.2.2.2.1,r18.1.2.2.2.2.2.2.1),x21) else none:Option ((List Int × Int × Int) × eO × (List YU) × (List Zt9) × (List YU))).bind fun x23=> self8 (x23.1,x23.2.1,x23.2.2.1,x23.2.2.2.1,x23.2.2.2.2,IntKind.wrap .i64 (x7.2.2.2.2.2+1)) else some (r10.2,x7.2.2.1,x7.2.2.2.2.1)) (r1.2,(r2.1.1,r2.1.2.1,r2.1.2.2.1,r2.1.2.2.2.1,r2.1.2.2.2.2.1,r2.1.2.2.2.2.2.1,r2.1.2.2.2.2.2.2.1,r2.1.2.2.2.2.2.2.2.1,r2.1.2.2.2.2.2.2.2.2.1,r2.1.2.2.2.2.2.2.2.2.2.1,r2.1.2.2.2.2.2.2.2.2.2.2.1,r2.1.2.2.2.2.2.2.2.2.2.2.2.1,r2.1.2.2.2.2.2.2.2.2.2.2.2.2.1,r2.1.2.2.2.2.2.2.2.2.2.2.2.2.2.1,r2.1.2.2.2.2.2.2.2.2.2.2.2.2.2.2.1),[],x6,[],(0:Int))).bind fun x24=> bif decide (0<a2) then some ((r0.1,IntKind.wrap .i64 ((1:Int)+r1.1),x24.2.2),x24.1) else some ((r0.1,IntKind.wrap .i64 ((1:Int)+r1.1),x24.2.1),x24.1):=by kernel_rfl
def JW:TC:=
 (zS [bO 2,bO 3,zIt 4] (zS [au 5 0,gI 6 37 5,au 7 0,OH 108 6 7 0 8 6 8,xh 9 8 0,xh 10 8 1,zIn 8 2 1 11 8,yL 2 9,dK 11 4 11] .ret))
def JX:aM:=⟨[.rd false fG],(.tup [(false,1),(false,1),(false,1)] [.d,.d,.sl (.own none) [.d,.d,.d,.d,.d,.d,.d,.d,.sl (.ro [0]) [.d,.d],.sl (.ro [0]) [.d],.d,.d,.sl (.ro [0]) [.d,.d],.d]])⟩
def JY:aL:=aG [(37,Gg),(108,LM)]
def zB (n:Nat):List (Int)->Option (Zt5 × Unit):=aI n JY JW [[.sl [.i .u8]]] Ty3 [] [2,3,4] .no
def zD:=zB BIG
def JZ:TSp:=⟨JX,[[.sl [.i .u8]]],Ty3,[],Ou.j .no,zD⟩
theorem acE:zK JY 29 JX JW 12 .no [2,3,4]:=by show _=_;kernel_rfl
theorem aak:JZ.Ok PG 29:=aQ (af KX (af UE (az PG))) acE (by kernel_rfl)
theorem acF (n) (a0):zB n a0 = (wm a0).bind fun r0=> (CW (r0.1,a0,(0:Int))).bind fun r1=> some (r1.1,()):=by kernel_rfl
def ayl:TC:=
 (zS [bB 6] (zQ (.join [⟨6,[.b],false⟩] 32704 none (zR [dz 7 0 1,zAC 9 7 8,Cc 10 9 0 3,iJ 12 2 3,zAD,nG 10 13 14 6])) .ret))
def aym:aM:=⟨[.rd false [.d],.rd false [.d],.rd false [.d]],(.one false [.d])⟩
def ayn:aL:=aG []
def aqu (n:Nat):Int × Int × Int->Option ((Bool) × Unit):=aI n ayn ayl [[.i .i64],[.i .i64],[.i .i64]] [.b] [] [6] .no
def fw:=aqu BIG
def lm:TSp:=⟨aym,[[.i .i64],[.i .i64],[.i .i64]],[.b],[],Ou.j .no,fw⟩
theorem aDM:zK ayn 48 aym ayl 15 .no [6]:=by show _=_;kernel_rfl
theorem jW:lm.Ok PG 48:=aQ (az PG) aDM (by kernel_rfl)
theorem aDN (n) (a0) (a1) (a2):aqu n (a0,a1,a2) = (bif decide (a1<=a0) then some (decide (a0<=a2)) else some false).bind fun x0=> some (x0,()):=by kernel_rfl
def aiD:TC:=
 (zS [yF 2] (zS [yF 3] (zQ (.join [⟨3,[.sl [.i .i64]],false⟩] 16376 none (zS [au 5 0,bO 6] (.block 0 (.loop [⟨3,[.sl [.i .i64]],false⟩,⟨6,[.i .i64],false⟩] 16344 (zS [gH 7 6 5] (zQ (zC 7 .skip (.exit 0)) (zQ (.block 1 (zS [au 8 6,au 4 8] (zR [dK 3 9 3,au 10 4,JD 11 10,M6 9 11 12 9 3]))) (zR [BZ 13 6,au 6 13])))))))) (zS [t_ 3 14 3 2] .ret))))
def aiE:aM:=⟨[.rd false [.d]],(.one false fG)⟩
def aiF:aL:=aG []
def Xb (n:Nat):Int->Option ((List Int) × Unit):=aI n aiF aiD [[.i .i64]] [.sl [.i .i64]] [] [2] .no
def zF:=Xb BIG
def EB:TSp:=⟨aiE,[[.i .i64]],[.sl [.i .i64]],[],Ou.j .no,zF⟩
theorem awt:zK aiF 177 aiE aiD 15 .no [2]:=by show _=_;kernel_rfl
theorem GI:EB.Ok PG 177:=aQ (az PG) awt (by kernel_rfl)
theorem awu (n) (a0):Xb n a0 = (aK n (X:=(List Int) × Int) (B:=(List Int)) (fun self1 x0=> bif decide (x0.2<a0) then bif decide (x0.1.length+[x0.2].length<=4294967296) then self1 (x0.1++[x0.2],IntKind.wrap .i64 (x0.2+1)) else none else some x0.1) ([],(0:Int))).bind fun x2=> some (x2,()):=by kernel_rfl
def aal:TC:=
 (zS [qi 4 1000000005,bB 5] (zQ (.seq (.join [⟨15,[.b],false⟩] 65280 none (zR [au 8 0,pz 9 48 8 12,JM 10 9 1 3,zBm 48 12 3 13 13 3,tZ 14 13 3 11])) (zC 15 (zS [zBp 16,Ce 4 16 4 16] .ret) .skip)) (zS [au 17 0,[o1 18 (.build bE [(0,.t 17)])],qi 6 1000000007,iY 6 18 6 18] (zQ (.join [⟨6,bE,false⟩] 8589410496 none (zS [au 19 0,bO 20] (.block 0 (.loop [⟨6,bE,false⟩,⟨20,[.i .i64],false⟩] 8588886208 (zS [gH 21 20 19] (zQ (zC 21 .skip (.exit 0)) (zQ (.block 1 (zS [M_ 22 20 7] (zR [dz 25 7 1,uA 23 6 1,zAA 27 25 26,zAe 28 1 27,JD 29 28,YO 24 24 29 30 24 24 6 30 6 6 1]))) (zR [mV 32 20])))))))) (zQ (.join [⟨6,bE,false⟩] 562941363486784 none (zS [au 33 1,bO 34] (.block 2 (.loop [⟨6,bE,false⟩,⟨34,[.i .i64],false⟩] 562932773552192 (zS [gH 35 34 33] (zQ (zC 35 .skip (.exit 2)) (zQ (.block 3 (zS [au 38 0,uA 36 6 3,gI 39 177 38,zBx 39 40 39,zBy 37 37 40 41 37 40 37 6 41,zMc 42 6 41 37 6 3 41] (zR [uA 43 6 4,[o5 (.sli [.i .i64] [kO 0]) 45 1000000001],YO 44 44 45 46 44 44 6 46 6 6 4]))) (zR [mV 48 34])))))))) (zS [xu 49 6 15 4 4 6,ic 5] .ret))))))
def aam:aM:=⟨[.rd false [.d],.rd false [.d]],(.tup [(true,15),(false,1)] Ct0)⟩
def aan:aL:=aG [(48,lm),(177,EB)]
def LP (n:Nat):Int × Int->Option (Zt1 × Unit):=aI n aan aal [[.i .i64],[.i .i64]] Ty1 [] [4,5] .no
def CX:=LP BIG
def aao:TSp:=⟨aam,[[.i .i64],[.i .i64]],Ty1,[],Ou.j .no,CX⟩
theorem aqv:zK aan 109 aam aal 50 .no [4,5]:=by show _=_;kernel_rfl
theorem alE:aao.Ok PG 109:=aQ (af jW (af GI (az PG))) aqv (by kernel_rfl)
theorem aqw (n) (a0) (a1):LP n (a0,a1) = ((fw (a0,(1:Int),(12:Int))).bind fun r0=> bif !r0.1 then some true else (fw (a1,(1:Int),(3:Int))).bind fun r1=> some !r1.1).bind fun x2=> bif x2 then some (((0:Int),[],[],[],[],(0:Int),(0:Int),(0:Int),(0:Int),(0:Int),(0:Int),(0:Int),[],(0:Int),[],false),()) else (aK n (X:=eO × Int) (B:=eO) (fun self4 x3=> bif decide (x3.2<a0) then bif decide (a1=0) then none else bif decide (x3.1.2.1.length+([IntKind.wrap .i64 ((1:Int)+(Int.tmod x3.2 a1))]).length<=4294967296) then self4 ((x3.1.1,x3.1.2.1++([IntKind.wrap .i64 ((1:Int)+(Int.tmod x3.2 a1))]),x3.1.2.2),IntKind.wrap .i64 (x3.2+1)) else none else some x3.1) ((a0,[],[],[],[],(0:Int),(0:Int),(0:Int),(0:Int),(0:Int),(0:Int),(0:Int),[],(0:Int),[]),(0:Int))).bind fun x5=> (aK n (X:=eO × Int) (B:=eO) (fun self7 x6=> bif decide (x6.2<a1) then (zF a0).bind fun r8=> bif decide (x6.1.2.2.2.1.length+[r8.1].length<=4294967296) then bif decide (x6.1.2.2.2.2.1.length+([(0:Int)]).length<=4294967296) then self7 ((x6.1.1,x6.1.2.1,x6.1.2.2.1,x6.1.2.2.2.1++[r8.1],x6.1.2.2.2.2.1++([(0:Int)]),x6.1.2.2.2.2.2),IntKind.wrap .i64 (x6.2+1)) else none else none else some x6.1) (x5,(0:Int))).bind fun x9=> some ((x9.1,x9.2.1,x9.2.2.1,x9.2.2.2.1,x9.2.2.2.2.1,x9.2.2.2.2.2.1,x9.2.2.2.2.2.2.1,x9.2.2.2.2.2.2.2.1,x9.2.2.2.2.2.2.2.2.1,x9.2.2.2.2.2.2.2.2.2.1,x9.2.2.2.2.2.2.2.2.2.2.1,x9.2.2.2.2.2.2.2.2.2.2.2.1,x9.2.2.2.2.2.2.2.2.2.2.2.2.1,x9.2.2.2.2.2.2.2.2.2.2.2.2.2.1,x9.2.2.2.2.2.2.2.2.2.2.2.2.2.2,true),()):=by kernel_rfl
def UF:TC:=
 (zS [yF 2] (zS [au 3 0,zIC 4 3,dK 4 2 4] .ret))
def UG:aM:=⟨[.rd false fG],(.one false fG)⟩
def UH:aL:=aG []
def Am (n:Nat):List (Int)->Option ((List Int) × Unit):=aI n UH UF [[.sl [.i .i64]]] [.sl [.i .i64]] [] [2] .no
def mF:=Am BIG
def Ao:TSp:=⟨UG,[[.sl [.i .i64]]],[.sl [.i .i64]],[],Ou.j .no,mF⟩
theorem alF:zK UH 72 UG UF 5 .no [2]:=by show _=_;kernel_rfl
theorem EC:Ao.Ok PG 72:=aQ (az PG) alF (by kernel_rfl)
theorem UI (n) (a0):Am n a0 = bif decide (a0.length<=4294967296) then some (a0,()) else none:=by kernel_rfl
def PU:TC:=
 (zS [A9 2] (zS [au 3 0,zIC 4 3,dK 4 2 4] .ret))
def PV:aM:=⟨[.rd false iM],(.one false iM)⟩
def PW:aL:=aG []
def EE (n:Nat):(List aR)->Option ((List aR) × Unit):=aI n PW PU [[.sl [.i .i64,.i .i64]]] [.sl [.i .i64,.i .i64]] [] [2] .no
def sF:=EE BIG
def xP:TSp:=⟨PV,[[.sl [.i .i64,.i .i64]]],[.sl [.i .i64,.i .i64]],[],Ou.j .no,sF⟩
theorem aiG:zK PW 132 PV PU 5 .no [2]:=by show _=_;kernel_rfl
theorem BL:xP.Ok PG 132:=aQ (az PG) aiG (by kernel_rfl)
theorem aiH (n) (a0):EE n a0 = bif decide (a0.length<=4294967296) then some (a0,()) else none:=by kernel_rfl
def UJ:TC:=
 (zS [dN 1 0,zEw 2 1000000003] (zS [jy 3,JC 4 3,OE 5 1 7 4,gI 6 132 5,jy 7,JC 8 7,F8 6 7 8 6] (zS [iZ 9 1 9,DZ 9 2 9 2 9 9 1] .ret)))
def UK:aM:=⟨[.rd true Ct6],(.one true Ct6)⟩
def UL:aL:=aG [(132,xP)]
def IE (n:Nat):apH->Option (apH × Unit):=aI n UL UJ [DY] DY [] [2] .no
def IG:=IE BIG
def UM:TSp:=⟨UK,[DY],DY,[],Ou.j .no,IG⟩
theorem alG:zK UL 133 UK UJ 10 .no [2]:=by show _=_;kernel_rfl
theorem aiI:UM.Ok PG 133:=aQ (af BL (az PG)) alG (by kernel_rfl)
theorem alH (n) (a0):IE n a0 = (sF a0.2.2.2.2.2.2.2.1).bind fun r0=> some ((a0.1,a0.2.1,a0.2.2.1,a0.2.2.2.1,a0.2.2.2.2.1,a0.2.2.2.2.2.1,a0.2.2.2.2.2.2.1,r0.1,a0.2.2.2.2.2.2.2.2),()):=by kernel_rfl
def UN:TC:=
 (zS [dN 1 0,qi 2 1000000003] (zS [zGv 1000000004 6 6,zGw 1000000004 1 0 6 7 7,zGv 1000000004 8 8,zGw 1000000004 1 1 8 9 9,zHv 1000000004 72 9 10 10,M5 1000000004 11 11 1 2,zHv 1000000004 132 12 13 13,M5 1000000004 14 14 1 4,zHv 1000000004 72 15 16 16,zGv 1000000004 17 17,[⟨false,[],[1000000004],.det 1 (.load 1 [] 5 (.t 17) 9 false),[18],(some 18),none⟩],zHv 1000000004 133 18 19 19,M5 1000000004 20 20 1 14,[⟨false,[],[1000000004],.det 1 (.app none 21),[22],(some 22),none⟩,⟨false,[],[1000000004],.det 6 (.build bE [(0,.t 7),(1,.t 10),(2,.t 13),(4,.t 16),(5,.t 19),(14,.t 22)]),[23,10,13,16,19,22],(some 23),none⟩],qi 3 1000000004,iY 3 23 3 23] (zQ (.join [⟨3,bE,false⟩] 549739036712 none (zS [bR 24 1 3,sw 26 25] (.block 0 (.loop [⟨3,bE,false⟩,⟨27,[.i .i64],false⟩] 549621596200 (zS [gH 28 27 26] (zQ (zC 28 .skip (.exit 0)) (zQ (.block 1 (zS [nE 29 25 27 1,au 5 30] (zR [au 33 5,uA 31 3 3,gI 34 72 33,zBx 34 35 34,zBy 32 32 35 36 32 35 32 3 36,zMc 37 3 36 32 3 3 36]))) (zR [mV 38 27])))))))) (zS [xu 39 3 15 2 2 3] .ret))))
def UO:aM:=⟨[.rd true pq],(.one true pq)⟩
def UQ:aL:=aG [(72,Ao),(132,xP),(133,UM)]
def II (n:Nat):eO->Option (eO × Unit):=aI n UQ UN [bE] bE [] [2] .no
def Ap:=II BIG
def IJ:TSp:=⟨UO,[bE],bE,[],Ou.j .no,Ap⟩
theorem alI:zK UQ 47 UO UN 40 .no [2]:=by show _=_;kernel_rfl
theorem PY:IJ.Ok PG 47:=aQ (af EC (af BL (af aiI (az PG)))) alI (by kernel_rfl)
theorem alJ (n) (a0):II n a0 = (mF a0.2.1).bind fun r0=> (sF a0.2.2.1).bind fun r1=> (mF a0.2.2.2.2.1).bind fun r2=> (IG (a0.2.2.2.2.2.1,a0.2.2.2.2.2.2.1,a0.2.2.2.2.2.2.2.1,a0.2.2.2.2.2.2.2.2.1,a0.2.2.2.2.2.2.2.2.2.1,a0.2.2.2.2.2.2.2.2.2.2.1,a0.2.2.2.2.2.2.2.2.2.2.2.1,a0.2.2.2.2.2.2.2.2.2.2.2.2.1,a0.2.2.2.2.2.2.2.2.2.2.2.2.2.1)).bind fun r3=> bif decide (a0.2.2.2.2.2.2.2.2.2.2.2.2.2.2.length<=4294967296) then (aK n (X:=eO × Int) (B:=eO) (fun self5 x4=> bif decide (x4.2<(a0.2.2.2.1.length:Int)) then bnd a0.2.2.2.1.length x4.2 fun n6=> a0.2.2.2.1[n6]?.bind fun y7=> (mF y7).bind fun r8=> bif decide (x4.1.2.2.2.1.length+[r8.1].length<=4294967296) then self5 ((x4.1.1,x4.1.2.1,x4.1.2.2.1,x4.1.2.2.2.1++[r8.1],x4.1.2.2.2.2),IntKind.wrap .i64 (x4.2+1)) else none else some x4.1) ((a0.1,r0.1,r1.1,[],r2.1,r3.1.1,r3.1.2.1,r3.1.2.2.1,r3.1.2.2.2.1,r3.1.2.2.2.2.1,r3.1.2.2.2.2.2.1,r3.1.2.2.2.2.2.2.1,r3.1.2.2.2.2.2.2.2.1,r3.1.2.2.2.2.2.2.2.2,a0.2.2.2.2.2.2.2.2.2.2.2.2.2.2),(0:Int))).bind fun x9=> some (x9,()) else none:=by kernel_rfl
def UR:TC:=
 (zS [bB 4] (zQ (zS [xw 7 1 7,au 9 0,xn 10 8 9] (zC 10 (zS [bB 4] .ret) .skip)) (zQ (.join [] 2147481712 (some [⟨4,[.b],false⟩]) (zS [M7 11 1] (.block 0 (.loop [⟨13,[.i .i64],false⟩] 2147475568 (zS [gH 14 13 12] (zQ (zC 14 .skip (.exit 0)) (zQ (.join [] 1073709168 (some [⟨4,[.b],false⟩]) (.block 1 (zS [au 15 13,nE 16 11 13 1,au 5 15,au 6 17] (zQ (.join [⟨29,[.b],false⟩] 1073479680 none (zR [dz 18 6 5,YK 20 48 18 19,JM 21 20 1 4,YP 24 6 4 23 4,YL 26 23 1 25 4,jN 27 6 4,JJ 28 26 27 4 22])) (zC 29 (zS [bB 4] .ret) .skip))))) (zR [mV 30 13])))))))) (zS [ic 4] .ret))))
def UT:aM:=⟨[.rd false [.d],.rd false fG],(.one false [.d])⟩
def UU:aL:=aG [(48,lm)]
def IK (n:Nat):Int × List (Int)->Option ((Bool) × Unit):=aI n UU UR [[.i .i64],[.sl [.i .i64]]] [.b] [] [4] .no
def Aq:=IK BIG
def IL:TSp:=⟨UT,[[.i .i64],[.sl [.i .i64]]],[.b],[],Ou.j .no,Aq⟩
theorem alK:zK UU 59 UT UR 31 .no [4]:=by show _=_;kernel_rfl
theorem PZ:IL.Ok PG 59:=aQ (af jW (az PG)) alK (by kernel_rfl)
theorem alL (n) (a0) (a1):IK n (a0,a1) =
 bif !decide ((a1.length:Int)=a0) then
  some (false,())
 else (aK n (X:=Int) (B:=(Unit) ⊕ (Bool)) (fun self1 x0=>
  bif decide (x0<(a1.length:Int)) then
   (bnd a1.length x0 fun n2=>
    a1[n2]?.bind fun y3=>
    ((fw (y3,(0:Int),x0)).bind fun r4=>
     bif !r4.1 then
      some true
     else bnd a1.length y3 fun n5=>
     a1[n5]?.bind fun y6=>
     some (!decide (y6=y3))).bind fun x7=>
    bif x7 then
     some (Sum.inr false)
    else some (Sum.inl ())).bind fun y=>match y with
   | .inl x8=>
    self1 (IntKind.wrap .i64 (x0+1))
   | .inr x8=>
    some (Sum.inr x8)
  else some (Sum.inl ())) (0:Int)).bind fun y=>match y with
 | .inl x9=>
  some (true,())
 | .inr x9=>
  some (x9,()):=by kernel_rfl
def aeM:TC:=
 (zS [kX 3 1] (zQ (.join [⟨4,[.b],false⟩] 268435440 none (zR [au 5 0,pz 6 48 5 12,au 7 6,ry 8 2,B_ 9 3 0 8 2,iJ 10 0 2,zMr 11 10 2 48 9 2,lN 7 12 13,wh 15 9 3 1 9,iJ 17 0 9,zMr 18 17 9 48 16 9,lN 14 19 20,OM 22 16 3 0 3 1,zDx 26 23 25 16,nG 21 26 27 4])) .ret))
def aeN:aM:=⟨[.rd false [.d],.rd true [.d,.d]],(.one false [.d])⟩
def aeO:aL:=aG [(48,lm)]
def P5 (n:Nat):Int × aR->Option ((Bool) × Unit):=aI n aeO aeM [[.i .i64],[.i .i64,.i .i64]] [.b] [] [4] .no
def Bj:=P5 BIG
def GJ:TSp:=⟨aeN,[[.i .i64],[.i .i64,.i .i64]],[.b],[],Ou.j .no,Bj⟩
theorem atS:zK aeO 189 aeN aeM 28 .no [4]:=by show _=_;kernel_rfl
theorem LQ:GJ.Ok PG 189:=aQ (af jW (az PG)) atS (by kernel_rfl)
theorem atT (n) (a0) (a1):P5 n (a0,a1) = ((fw (a0,(1:Int),(12:Int))).bind fun r0=> bif r0.1 then (fw (a1.1,(0:Int),IntKind.wrap .i64 (a0-1))).bind fun r1=> bif r1.1 then (fw (a1.2,(0:Int),IntKind.wrap .i64 (a0-1))).bind fun r2=> bif r2.1 then some (decide (a1.1<a1.2)) else some false else some false else some false).bind fun x3=> some (x3,()):=by kernel_rfl
def aiJ:TC:=
 (zS [dN 2 0,kX 3 1] (zQ (.join [⟨4,[.b],false⟩] 16777200 none (zR [iV 5 2 0 5,iV 7 3 0 7,gH 9 6 8,M8 10 9 5 2 0 5,Ba 13 5 3 0 5,zDA 15 12 14 5,jN 16 15 5,OM 17 11 2 1 3 1,zDx 21 18 20 11,F_ 16 21 22 22 5 10,au 4 23])) .ret))
def aiK:aM:=⟨[.rd true [.d,.d],.rd true [.d,.d]],(.one false [.d])⟩
def aiL:aL:=aG []
def Xc (n:Nat):aR × aR->Option ((Bool) × Unit):=aI n aiL aiJ [[.i .i64,.i .i64],[.i .i64,.i .i64]] [.b] [] [4] .no
def zG:=Xc BIG
def LU:TSp:=⟨aiK,[[.i .i64,.i .i64],[.i .i64,.i .i64]],[.b],[],Ou.j .no,zG⟩
theorem awv:zK aiL 192 aiK aiJ 24 .no [4]:=by show _=_;kernel_rfl
theorem P6:LU.Ok PG 192:=aQ (az PG) awv (by kernel_rfl)
theorem aww (n) (a0) (a1):Xc n (a0,a1) = (bif decide (a0.1<a1.1) then some true else bif decide (a0.1=a1.1) then some (decide (a0.2<a1.2)) else some false).bind fun x0=> some (x0,()):=by kernel_rfl
def aap:TC:=
 (zS [bB 4] (zQ (.join [] 8589934576 (some [⟨4,[.b],false⟩]) (zS [au 7 1,sw 8 7] (.block 0 (.loop [⟨9,[.i .i64],false⟩] 8589934192 (zS [gH 10 9 8] (zQ (zC 10 .skip (.exit 0)) (zQ (.join [] 4294965360 (some [⟨4,[.b],false⟩]) (.block 1 (zS [au 11 9,OJ 12 7 9 7 2 2,rC 6 1000000007,au 5 11,eB 6 6 13] (zQ (.join [⟨31,[.b],false⟩] 4294950912 none (zR [au 14 0,yK 15 6 2 189 14,JM 17 16 5 4,zDD 20 19 0 4,jN 21 20 4,iJ 22 1 7,iJ 23 5 7,zDv 24 23 7,rA 25 22 24 7,zEa 26 22 2 25 2 7,zEA 27 6 2 7,qj 192 26 27 28 28 7,zEc 29 28 7,F_ 21 29 30 30 4 18])) (zC 31 (zS [bB 4] .ret) .skip))))) (zR [BZ 32 9,au 9 32])))))))) (zS [au 33 1,mr 34 33,zAy 35 34 66,au 4 35] .ret)))
def aaq:aM:=⟨[.rd false [.d],.rd false iM],(.one false [.d])⟩
def aar:aL:=aG [(189,GJ),(192,LU)]
def LV (n:Nat):Int × (List aR)->Option ((Bool) × Unit):=aI n aar aap [[.i .i64],[.sl [.i .i64,.i .i64]]] [.b] [] [4] .no
def tO:=LV BIG
def xQ:TSp:=⟨aaq,[[.i .i64],[.sl [.i .i64,.i .i64]]],[.b],[],Ou.j .no,tO⟩
theorem aqx:zK aar 144 aaq aap 36 .no [4]:=by show _=_;kernel_rfl
theorem Ar:xQ.Ok PG 144:=aQ (af LQ (af P6 (az PG))) aqx (by kernel_rfl)
theorem aqy (n) (a0) (a1):LV n (a0,a1) =
 (aK n (X:=Int) (B:=(Unit) ⊕ (Bool)) (fun self1 x0=>
  bif decide (x0<(a1.length:Int)) then
   (bnd a1.length x0 fun n2=>
    a1[n2]?.bind fun y3=>
    ((Bj (a0,y3)).bind fun r4=>
     bif !r4.1 then
      some true
     else bif decide (0<x0) then
      bnd a1.length (IntKind.wrap .i64 (x0-1)) fun n5=>
      a1[n5]?.bind fun y6=>
      (zG (y6,y3)).bind fun r7=>
      some !r7.1
     else some false).bind fun x8=>
    bif x8 then
     some (Sum.inr false)
    else some (Sum.inl ())).bind fun y=>match y with
   | .inl x9=>
    self1 (IntKind.wrap .i64 (x0+1))
   | .inr x9=>
    some (Sum.inr x9)
  else some (Sum.inl ())) (0:Int)).bind fun y=>match y with
 | .inl x10=>
  some (decide ((a1.length:Int)<=66),())
 | .inr x10=>
  some (x10,()):=by kernel_rfl
end
end Go.Fw
