/- The given functions, as what they compute; each is shown to be what the code does. No conditions. -/
import Derived.Test.YtbdciplhpomakaaGreatX1
set_option linter.unusedVariables false
set_option linter.unusedSimpArgs false
set_option linter.unusedSectionVars false
namespace Go.Fw
noncomputable section
def DJ:TC:=
 (zS [bM 1 0,rC 2 1000000003] (zS [XB 1000000004 6 6,zGA 1000000004 1 0 6 7 7,XB 1000000004 8 8,zGA 1000000004 1 1 8 9 9,XA 1000000004 72 9 10 10,xz 1000000004 11 11 1 2,XA 1000000004 132 12 13 13,xz 1000000004 14 14 1 4,XA 1000000004 72 15 16 16,XB 1000000004 17 17,zIA 1000000004 1 5 17 9 18 18,XA 1000000004 133 18 19 19,xz 1000000004 20 20 1 14,[⟨false,[],[1000000004],.det 1 (.app none 21),[22],(some 22),none⟩,⟨false,[],[1000000004],.det 6 (.build bu [(0,.t 7),(1,.t 10),(2,.t 13),(4,.t 16),(5,.t 19),(14,.t 22)]),[23,10,13,16,19,22],(some 23),none⟩],rC 3 1000000004,ek 3 23 3 23] (zQ (.join [⟨3,bu,false⟩] 549739036712 none (zS [aW 24 1 3,jh 26 25] (.block 0 (.loop [⟨3,bu,false⟩,⟨27,[.i .i64],false⟩] 549621596200 (zS [d_ 28 27 26] (zQ (zC 28 .skip (.exit 0)) (zQ (.block 1 (zS [kv 29 25 27 1,af 5 30] (zR [af 33 5,mO 31 3 3,dH 34 72 33,zBw 34 35 34,zBx 32 32 35 36 32 35 32 3 36,bO 37,rD 3 36 32 3 3 37 36]))) (zR [kQ 38 27])))))))) (zS [kU 39 3 15 2 2 3] .ret))))
def Pp:aJ:=⟨[.rd true kN],(.one true kN)⟩
def DK:aH:=aA [(72,vE),(132,sO),(133,Po)]
def DL (n:Nat):dE->Option (dE × Unit):=aD n DK DJ [bu] bu [] [2] .no
def vG:=DL BIG
def DN:TSp:=⟨Pp,[bu],bu,[],Ou.j .no,vG⟩
theorem ade:aM PG DK 47 Pp (DJ.ht 40) .no=some (DJ.wc DK,[2]):=by kernel_rfl
theorem LX:DN.Ok PG 47:=aN (aa z_ (aa wV (aa abg (ak PG)))) ade (by kernel_rfl)
theorem adf (n) (a0):DL n a0 = (ji a0.2.1).bind fun r0=> (mU a0.2.2.1).bind fun r1=> (ji a0.2.2.2.2.1).bind fun r2=> (DI (a0.2.2.2.2.2.1,a0.2.2.2.2.2.2.1,a0.2.2.2.2.2.2.2.1,a0.2.2.2.2.2.2.2.2.1,a0.2.2.2.2.2.2.2.2.2.1,a0.2.2.2.2.2.2.2.2.2.2.1,a0.2.2.2.2.2.2.2.2.2.2.2.1,a0.2.2.2.2.2.2.2.2.2.2.2.2.1,a0.2.2.2.2.2.2.2.2.2.2.2.2.2.1)).bind fun r3=> bif decide (a0.2.2.2.2.2.2.2.2.2.2.2.2.2.2.length<=4294967296) then (aI n (X:=dE × Int) (B:=dE) (fun self5 x4=> bif decide (x4.2<(a0.2.2.2.1.length:Int)) then bnd a0.2.2.2.1.length x4.2 fun n6=> a0.2.2.2.1[n6]?.bind fun y7=> (ji y7).bind fun r8=> bif decide (x4.1.2.2.2.1.length+[r8.1].length<=4294967296) then self5 ((x4.1.1,x4.1.2.1,x4.1.2.2.1,x4.1.2.2.2.1++[r8.1],x4.1.2.2.2.2),IntKind.wrap .i64 (x4.2+(1:Int))) else none else some x4.1) ((a0.1,r0.1,r1.1,[],r2.1,r3.1.1,r3.1.2.1,r3.1.2.2.1,r3.1.2.2.2.1,r3.1.2.2.2.2.1,r3.1.2.2.2.2.2.1,r3.1.2.2.2.2.2.2.1,r3.1.2.2.2.2.2.2.2.1,r3.1.2.2.2.2.2.2.2.2,a0.2.2.2.2.2.2.2.2.2.2.2.2.2.2),(0:Int)):Option (dE)).bind fun x9=> some (x9,()) else none:=by kernel_rfl
def ag8:TC:=
 (zS [a_ 6] (zQ (.join [⟨6,[.b],false⟩] 32704 none (zR [di 7 0 1,zAC 9 7 8,af 10 9,cK 11 0 3,cK 12 2 3,zAD,jW 10 13 14 6])) .ret))
def am3:aJ:=⟨[.rd false [.d],.rd false [.d],.rd false [.d]],(.one false [.d])⟩
def ag9:aH:=aA []
def ag_ (n:Nat):Int × Int × Int->Option ((Bool) × Unit):=aD n ag9 ag8 [[.i .i64],[.i .i64],[.i .i64]] [.b] [] [6] .no
def dZ:=ag_ BIG
def j_:TSp:=⟨am3,[[.i .i64],[.i .i64],[.i .i64]],[.b],[],Ou.j .no,dZ⟩
theorem aqB:aM PG ag9 48 am3 (ag8.ht 15) .no=some (ag8.wc ag9,[6]):=by kernel_rfl
theorem iU:j_.Ok PG 48:=aN (ak PG) aqB (by kernel_rfl)
theorem aqC (n) (a0) (a1) (a2):ag_ n (a0,a1,a2) = (bif decide (a1<=a0) then some (decide (a0<=a2)) else some false:Option (Bool)).bind fun x0=> some (x0,()):=by kernel_rfl
def DR:TC:=
 (zS [a_ 4] (zQ (zS [af 7 1,dW 8 7,af 9 0,xw 10 8 9] (zC 10 (zS [a_ 4] .ret) .skip)) (zQ (.join [] 2147481712 (some [⟨4,[.b],false⟩]) (zS [af 11 1,jh 12 11] (.block 0 (.loop [⟨13,[.i .i64],false⟩] 2147475568 (zS [d_ 14 13 12] (zQ (zC 14 .skip (.exit 0)) (zQ (.join [] 1073709168 (some [⟨4,[.b],false⟩]) (.block 1 (zS [af 15 13,kv 16 11 13 1,af 5 15,af 6 17] (zQ (.join [⟨29,[.b],false⟩] 1073479680 none (zR [di 18 6 5,OH 20 48 18 19,jg 21 20,dw 23 1 4,dw 24 6 4,Ku 25 23 24 4,Ta 26 23 1 25 4,dw 27 6 4,xy 28 26 27 4,mK 22 28 29])) (zC 29 (zS [a_ 4] .ret) .skip))))) (zR [kQ 30 13])))))))) (zS [gu 4] .ret))))
def Pq:aJ:=⟨[.rd false [.d],.rd false dY],(.one false [.d])⟩
def DT:aH:=aA [(48,j_)]
def DU (n:Nat):Int × List (Int)->Option ((Bool) × Unit):=aD n DT DR [[.i .i64],[.sl [.i .i64]]] [.b] [] [4] .no
def vH:=DU BIG
def DV:TSp:=⟨Pq,[[.i .i64],[.sl [.i .i64]]],[.b],[],Ou.j .no,vH⟩
theorem adg:aM PG DT 59 Pq (DR.ht 31) .no=some (DR.wc DT,[4]):=by kernel_rfl
theorem LY:DV.Ok PG 59:=aN (aa iU (ak PG)) adg (by kernel_rfl)
theorem adh (n) (a0) (a1):DU n (a0,a1) =
 bif !decide ((a1.length:Int)=a0) then
  some (false,())
 else (aI n (X:=Int) (B:=(Unit) ⊕ (Bool)) (fun self1 x0=>
  bif decide (x0<(a1.length:Int)) then
   (bnd a1.length x0 fun n2=>
    a1[n2]?.bind fun y3=>
    ((dZ (y3,(0:Int),x0)).bind fun r4=>
     bif !r4.1 then
      some true
     else bnd a1.length y3 fun n5=>
     a1[n5]?.bind fun y6=>
     some (!decide (y6=y3)):Option (Bool)).bind fun x7=>
    bif x7 then
     some (Sum.inr false)
    else some (Sum.inl ()):Option ((Unit) ⊕ (Bool))).bind fun y=>match y with
   | .inl x8=>
    self1 (IntKind.wrap .i64 (x0+(1:Int)))
   | .inr x8=>
    some (Sum.inr x8)
  else some (Sum.inl ())) (0:Int):Option ((Unit) ⊕ (Bool))).bind fun y=>match y with
 | .inl x9=>
  some (true,())
 | .inr x9=>
  some (x9,()):=by kernel_rfl
def LZ:TC:=
 (zS [iH 3 1] (zQ (.join [⟨4,[.b],false⟩] 268435440 none (zR [af 5 0,lD 6 48 5 12,af 7 6,jA 8 2,l6 9 3 0 8 2,cK 10 0 2,EX 11 10 2,Xy 48 9 11 12 12 2,iT 7 12 13,nM 15 9 3 1 9,cK 17 0 9,EX 18 17 9,Xy 48 16 18 19 19 9,iT 14 19 20,gU 22 16 3 0,gU 24 16 3 1,zDp 26 23 25 16,jW 21 26 27 4])) .ret))
def X7:aJ:=⟨[.rd false [.d],.rd true [.d,.d]],(.one false [.d])⟩
def L6:aH:=aA [(48,j_)]
def L8 (n:Nat):Int × aF->Option ((Bool) × Unit):=aD n L6 LZ [[.i .i64],[.i .i64,.i .i64]] [.b] [] [4] .no
def wF:=L8 BIG
def BL:TSp:=⟨X7,[[.i .i64],[.i .i64,.i .i64]],[.b],[],Ou.j .no,wF⟩
theorem ajM:aM PG L6 189 X7 (LZ.ht 28) .no=some (LZ.wc L6,[4]):=by kernel_rfl
theorem H_:BL.Ok PG 189:=aN (aa iU (ak PG)) ajM (by kernel_rfl)
theorem ajN (n) (a0) (a1):L8 n (a0,a1) = ((dZ (a0,(1:Int),(12:Int))).bind fun r0=> bif r0.1 then (dZ (a1.1,(0:Int),IntKind.wrap .i64 (a0-(1:Int)))).bind fun r1=> bif r1.1 then (dZ (a1.2,(0:Int),IntKind.wrap .i64 (a0-(1:Int)))).bind fun r2=> bif r2.1 then some (decide (a1.1<a1.2)) else some false else some false else some false:Option (Bool)).bind fun x3=> some (x3,()):=by kernel_rfl
def QZ:TC:=
 (zS [bM 2 0,iH 3 1] (zQ (.join [⟨4,[.b],false⟩] 16777200 none (zR [eZ 5 2 0 5,eZ 7 3 0 7,d_ 9 6 8,af 10 9,gJ 11 5 2 0 5,gJ 13 5 3 0 5,zDs 15 12 14 5,dw 16 15 5,gU 17 11 2 1,gU 19 11 3 1,zDp 21 18 20 11,xB 16 21 22 22 5 10,af 4 23])) .ret))
def abh:aJ:=⟨[.rd true [.d,.d],.rd true [.d,.d]],(.one false [.d])⟩
def Q0:aH:=aA []
def Q3 (n:Nat):aF × aF->Option ((Bool) × Unit):=aD n Q0 QZ [[.i .i64,.i .i64],[.i .i64,.i .i64]] [.b] [] [4] .no
def uL:=Q3 BIG
def Ia:TSp:=⟨abh,[[.i .i64,.i .i64],[.i .i64,.i .i64]],[.b],[],Ou.j .no,uL⟩
theorem alJ:aM PG Q0 192 abh (QZ.ht 24) .no=some (QZ.wc Q0,[4]):=by kernel_rfl
theorem L9:Ia.Ok PG 192:=aN (ak PG) alJ (by kernel_rfl)
theorem alK (n) (a0) (a1):Q3 n (a0,a1) = (bif decide (a0.1<a1.1) then some true else bif decide (a0.1=a1.1) then some (decide (a0.2<a1.2)) else some false:Option (Bool)).bind fun x0=> some (x0,()):=by kernel_rfl
def Ib:TC:=
 (zS [a_ 4] (zQ (.join [] 8589934576 (some [⟨4,[.b],false⟩]) (zS [af 7 1,jh 8 7] (.block 0 (.loop [⟨9,[.i .i64],false⟩] 8589934192 (zS [d_ 10 9 8] (zQ (zC 10 .skip (.exit 0)) (zQ (.join [] 4294965360 (some [⟨4,[.b],false⟩]) (.block 1 (zS [af 11 9,jy 12 7 9,JC 13 7 2 12 2,l8 6 1000000007,af 5 11,cZ 6 6 13] (zQ (.join [⟨31,[.b],false⟩] 4294950912 none (zR [af 14 0,nN 15 6 2 189 14,jg 17 16,dw 19 5 4,Xz 20 19 0 4,dw 21 20 4,cK 22 1 7,cK 23 5 7,EX 24 23 7,kT 25 22 24 7,zDx 26 22 2 25 2 7,zHx 27 6 2 7,l7 192 26 27 28 28 7,zDz 29 28 7,xB 21 29 30 30 4 18])) (zC 31 (zS [a_ 4] .ret) .skip))))) (zR [Be 32 9,af 9 32])))))))) (zS [af 33 1,dW 34 33,zAy 35 34 66,af 4 35] .ret)))
def Uf:aJ:=⟨[.rd false [.d],.rd false fJ],(.one false [.d])⟩
def Ic:aH:=aA [(189,BL),(192,Ia)]
def Ie (n:Nat):Int × (List aF)->Option ((Bool) × Unit):=aD n Ic Ib [[.i .i64],[.sl [.i .i64,.i .i64]]] [.b] [] [4] .no
def nG:=Ie BIG
def sP:TSp:=⟨Uf,[[.i .i64],[.sl [.i .i64,.i .i64]]],[.b],[],Ou.j .no,nG⟩
theorem aha:aM PG Ic 144 Uf (Ib.ht 36) .no=some (Ib.wc Ic,[4]):=by kernel_rfl
theorem vI:sP.Ok PG 144:=aN (aa H_ (aa L9 (ak PG))) aha (by kernel_rfl)
theorem ahb (n) (a0) (a1):Ie n (a0,a1) =
 (aI n (X:=Int) (B:=(Unit) ⊕ (Bool)) (fun self1 x0=>
  bif decide (x0<(a1.length:Int)) then
   (bnd a1.length x0 fun n2=>
    a1[n2]?.bind fun y3=>
    ((wF (a0,y3)).bind fun r4=>
     bif !r4.1 then
      some true
     else bif decide ((0:Int)<x0) then
      bnd a1.length (IntKind.wrap .i64 (x0-(1:Int))) fun n5=>
      a1[n5]?.bind fun y6=>
      (uL (y6,y3)).bind fun r7=>
      some !r7.1
     else some false:Option (Bool)).bind fun x8=>
    bif x8 then
     some (Sum.inr false)
    else some (Sum.inl ()):Option ((Unit) ⊕ (Bool))).bind fun y=>match y with
   | .inl x9=>
    self1 (IntKind.wrap .i64 (x0+(1:Int)))
   | .inr x9=>
    some (Sum.inr x9)
  else some (Sum.inl ())) (0:Int):Option ((Unit) ⊕ (Bool))).bind fun y=>match y with
 | .inl x10=>
  some (decide ((a1.length:Int)<=(66:Int)),())
 | .inr x10=>
  some (x10,()):=by kernel_rfl
def Q4:TC:=
 (zS [iH 1 0] (zQ (.seq (.join [⟨20,[.b],false⟩] 2097024 none (zR [eZ 7 1 1 7,dW 9 8,aW 10 1 0,xw 12 9 11,af 13 12,gJ 14 6 1 0 6,gJ 16 6 1 2 6,yX 144 15 17 18 18 6,nL 19 18 6 13])) (zC 20 (zS [a_ 2] .ret) .skip)) (zQ (.join [] 34357641236 (some [⟨2,[.b],false⟩]) (zS [aW 21 1 1,jh 23 22] (.block 0 (.loop [⟨24,[.i .i64],false⟩] 34342961172 (zS [d_ 25 24 23] (zQ (zC 25 .skip (.exit 0)) (zQ (.block 1 (zS [kv 26 22 24 1,af 4 27] (zS [qA 28 4 1 3,dW 31 30,zHv 32 48 28 1 31,gX 33 32] (zC 33 (zS [a_ 2] .ret) .skip)))) (zR [kQ 34 24])))))))) (zQ (.join [] 72057559678189636 (some [⟨2,[.b],false⟩]) (zS [aW 35 1 2,jh 37 36] (.block 2 (.loop [⟨38,[.i .i64],false⟩] 72057319160021060 (zS [d_ 39 38 37] (zQ (zC 39 .skip (.exit 2)) (zQ (.block 3 (zS [jV 40 36 38 2 2,l8 6 1000000007,cZ 6 6 41] (zS [ky 42 1 1 6 0,kv 46 43 45 1,ky 48 1 1 6 1,kv 52 49 51 1,kP 54 47 53] (zC 54 (zS [a_ 2] .ret) .skip)))) (zR [kQ 55 38])))))))) (zS [gu 2] .ret)))))
def abj:aJ:=⟨[.rd true kN],(.one false [.d])⟩
def Q5:aH:=aA [(144,sP),(48,j_)]
def Q6 (n:Nat):dE->Option ((Bool) × Unit):=aD n Q5 Q4 [bu] [.b] [] [2] .no
def Q7:=Q6 BIG
def abk:TSp:=⟨abj,[bu],[.b],[],Ou.j .no,Q7⟩
theorem alL:aM PG Q5 60 abj (Q4.ht 56) .no=some (Q4.wc Q5,[2]):=by kernel_rfl
theorem ajO:abk.Ok PG 60:=aN (aa vI (aa iU (ak PG))) alL (by kernel_rfl)
theorem alM (n) (a0):Q6 n a0 =
 (bif !decide ((a0.2.1.length:Int)=a0.1) then
  some true
  else (nG (a0.1,a0.2.2.1)).bind fun r0=>
  some !r0.1:Option (Bool)).bind fun x1=>
 bif x1 then
  some (false,())
 else (aI n (X:=Int) (B:=(Unit) ⊕ (Bool)) (fun self3 x2=>
  bif decide (x2<(a0.2.1.length:Int)) then
   bnd a0.2.1.length x2 fun n4=>
   a0.2.1[n4]?.bind fun y5=>
   (dZ (y5,(1:Int),(a0.2.2.2.1.length:Int))).bind fun r6=>
   bif !r6.1 then
    some (Sum.inr false)
   else self3 (IntKind.wrap .i64 (x2+(1:Int)))
  else some (Sum.inl ())) (0:Int):Option ((Unit) ⊕ (Bool))).bind fun y=>match y with
 | .inl x7=>
  (aI n (X:=Int) (B:=(Unit) ⊕ (Bool)) (fun self9 x8=>
   bif decide (x8<(a0.2.2.1.length:Int)) then
    bnd a0.2.2.1.length x8 fun n10=>
    a0.2.2.1[n10]?.bind fun y11=>
    bnd a0.2.1.length y11.1 fun n12=>
    a0.2.1[n12]?.bind fun y13=>
    bnd a0.2.1.length y11.2 fun n14=>
    a0.2.1[n14]?.bind fun y15=>
    bif decide (y13=y15) then
     some (Sum.inr false)
    else self9 (IntKind.wrap .i64 (x8+(1:Int)))
   else some (Sum.inl ())) (0:Int):Option ((Unit) ⊕ (Bool))).bind fun y=>match y with
  | .inl x16=>
   some (true,())
  | .inr x16=>
   some (x16,())
 | .inr x7=>
  some (x7,()):=by kernel_rfl
def L_:TC:=
 (zS [bC 4] (zQ (.join [] 1048560 (some [⟨4,[.i .i64],false⟩]) (zS [af 7 0,jh 8 7] (.block 0 (.loop [⟨9,[.i .i64],false⟩] 1048176 (zS [d_ 10 9 8] (zQ (zC 10 .skip (.exit 0)) (zQ (.block 1 (zS [af 11 9,jy 12 7 9,JC 13 7 6 12 6,zHA 6 1000000007,af 5 11,cZ 6 6 13] (zS [aW 14 6 0,af 16 1,kP 17 15 16] (zC 17 (zS [af 18 5,af 4 18] .ret) .skip)))) (zR [Be 19 9,af 9 19])))))))) (zS [zEx 4] .ret)))
def X8:aJ:=⟨[.rd false Ct6,.rd false [.d]],(.one false [.d])⟩
def Ma:aH:=aA []
def Mc (n:Nat):(List lU) × Int->Option ((Int) × Unit):=aD n Ma L_ [Xv,[.i .i64]] [.i .i64] [] [4] .no
def qF:=Mc BIG
def wG:TSp:=⟨X8,[Xv,[.i .i64]],[.i .i64],[],Ou.j .no,qF⟩
theorem ajP:aM PG Ma 49 X8 (L_.ht 20) .no=some (L_.wc Ma,[4]):=by kernel_rfl
theorem xZ:wG.Ok PG 49:=aN (ak PG) ajP (by kernel_rfl)
theorem ajQ (n) (a0) (a1):Mc n (a0,a1) = (aI n (X:=Int) (B:=(Unit) ⊕ (Int)) (fun self1 x0=> bif decide (x0<(a0.length:Int)) then bnd a0.length x0 fun n2=> a0[n2]?.bind fun y3=> bif decide (y3.1=a1) then some (Sum.inr x0) else self1 (IntKind.wrap .i64 (x0+(1:Int))) else some (Sum.inl ())) (0:Int):Option ((Unit) ⊕ (Int))).bind fun y=>match y with | .inl x4=> some ((-1:Int),()) | .inr x4=> some (x4,()):=by kernel_rfl
def Me:TC:=
 (zS [a_ 2] (zQ (.join [] 17179869180 (some [⟨2,[.b],false⟩]) (zS [af 5 0,jh 6 5] (.block 0 (.loop [⟨7,[.i .i64],false⟩] 17179869084 (zS [d_ 8 7 6] (zQ (zC 8 .skip (.exit 0)) (zQ (.join [] 8589934108 (some [⟨2,[.b],false⟩]) (.block 1 (zS [af 9 7,jy 10 5 7,JC 11 5 6 10 6,zHA 4 1000000005,af 3 9,cZ 4 4 11] (zQ (.join [⟨32,[.b],false⟩] 8589930496 none (zR [aW 12 4 0,yZ 14,iR 16 4 1 15,xw 17 13 16,af 18 17,gJ 19 6 4 5 6,Kq 48 20 3 21 21 6,nO 22 21 6 18,dw 25 0 12,dw 26 3 12,[o2 27 (.res 25 none (some (.t 26))) 12 false],xA 28 12 4 0,yX 49 27 29 30 30 12,zIm 31 30 0 12,mK 24 31 32])) (zC 32 (zS [a_ 2] .ret) .skip))))) (zR [Be 33 7,af 7 33])))))))) (zS [af 34 0,dW 35 34,zAy 36 35 80,af 2 36] .ret)))
def X9:aJ:=⟨[.rd false Ct6],(.one false [.d])⟩
def Mf:aH:=aA [(48,j_),(49,wG)]
def Mg (n:Nat):(List lU)->Option ((Bool) × Unit):=aD n Mf Me [Xv] [.b] [] [2] .no
def Mh:=Mg BIG
def X_:TSp:=⟨X9,[Xv],[.b],[],Ou.j .no,Mh⟩
theorem ajR:aM PG Mf 61 X9 (Me.ht 37) .no=some (Me.wc Mf,[2]):=by kernel_rfl
theorem ahc:X_.Ok PG 61:=aN (aa iU (aa xZ (ak PG))) ajR (by kernel_rfl)
theorem ajS (n) (a0):Mg n a0 =
 (aI n (X:=Int) (B:=(Unit) ⊕ (Bool)) (fun self1 x0=>
  bif decide (x0<(a0.length:Int)) then
   (bnd a0.length x0 fun n2=>
    a0[n2]?.bind fun y3=>
    (bif !decide (y3.1=y3.2.1) then
     some true
     else (dZ (y3.2.2.2.2.2,(1:Int),(3:Int))).bind fun r4=>
     bif !r4.1 then
      some true
     else bif decide (0<=x0) then
      bif decide (0<=(Int.toNat x0)/\(Int.toNat x0)<=a0.length) then
       (qF (List.take ((Int.toNat x0)-0) (List.drop 0 a0),y3.1)).bind fun r5=>
       some (decide ((0:Int)<=r5.1))
      else none
     else none:Option (Bool)).bind fun x6=>
    bif x6 then
     some (Sum.inr false)
    else some (Sum.inl ()):Option ((Unit) ⊕ (Bool))).bind fun y=>match y with
   | .inl x7=>
    self1 (IntKind.wrap .i64 (x0+(1:Int)))
   | .inr x7=>
    some (Sum.inr x7)
  else some (Sum.inl ())) (0:Int):Option ((Unit) ⊕ (Bool))).bind fun y=>match y with
 | .inl x8=>
  some (decide ((a0.length:Int)<=(80:Int)),())
 | .inr x8=>
  some (x8,()):=by kernel_rfl
def Mi:TC:=
 (zS [iH 1 0] (zS [bO 4,nK 5 1 5 4 4,zHt 3 1000000004,cZ 3 3 5] (zQ (.join [⟨2,[.b],false⟩] 68719476676 none (zR [bO 6,nK 7 1 0 6 4,[o1 8 (.build dD [])],zHu 9 7 8,ow 10 9 4 1 4 4,OI 13 12 4,iT 10 13 14,nM 16 9 3 0 9,OI 18 17 9,iT 15 18 19,gU 21 14 3 1,OI 23 22 14,iT 20 23 24,gU 26 19 3 2,zEr 28 27 19,OI 29 28 19,iT 25 29 30,gU 32 25 3 3,OI 34 33 25,jW 31 34 35 2])) .ret)))
def Ya:aJ:=⟨[.rd true Ct4],(.one false [.d])⟩
def Mj:aH:=aA []
def Mk (n:Nat):Zt7->Option ((Bool) × Unit):=aD n Mj Mi [Km] [.b] [] [2] .no
def Ml:=Mk BIG
def Yb:TSp:=⟨Ya,[Km],[.b],[],Ou.j .no,Ml⟩
theorem ajT:aM PG Mj 145 Ya (Mi.ht 36) .no=some (Mi.wc Mj,[2]):=by kernel_rfl
theorem ahd:Yb.Ok PG 145:=aN (ak PG) ajT (by kernel_rfl)
theorem ajU (n) (a0):Mk n a0 = (bif (decide (a0.1=(0:Int))&&(decide (a0.2.1=(0:Int))&&(decide (a0.2.2.1=(0:Int))&&(decide (a0.2.2.2.1=(0:Int))&&true)))) then bif decide (a0.2.2.2.2.1=(0:Int)) then bif decide (a0.2.2.2.2.2.1=(0:Int)) then bif decide (a0.2.2.2.2.2.2.1=(0:Int)) then bif decide ((a0.2.2.2.2.2.2.2.1.length:Int)=(0:Int)) then some (decide (a0.2.2.2.2.2.2.2.2=(0:Int))) else some false else some false else some false else some false else some false:Option (Bool)).bind fun x0=> some (x0,()):=by kernel_rfl
def Mm:TC:=
 (zS [bM 2 0,iH 3 1] (zS [eZ 7 2 0 7,oh 9 8,af 5 9] (zS [bC 6] (zQ (.join [⟨6,[.i .i64],false⟩,⟨5,[.i .i64],false⟩] 64608 none (zS [aW 10 3 1,fV 12 11 4] (zC 12 (zR [aW 13 2 3,dW 15 14,iq 6 1,af 5 15]) .skip))) (zQ (.seq (.join [⟨36,[.b],false⟩] 137438887936 none (zR [aW 16 3 1,lD 18 48 17 4,jg 19 18,gJ 21 4 3 2 4,gJ 23 4 2 0 4,zEf 25 24 4,zEg 48 22 0 25 26 26 4,nO 27 26 4 20,xA 30 13 3 3,dw 32 6 13,dw 33 5 13,[⟨false,[],[],.call 1 48 [.t 31,.t 32,.t 33] .no,[34],(some 34),some (13,false)⟩],nL 35 34 13 29])) (zC 36 (zS [gu 4] .ret) .skip)) (zQ (.join [⟨4,[.b],false⟩] 4503462188417040 none (zR [ky 37 3 2 3 3,kP 41 38 40,ow 42 41 5 3 1 5,zIg 45 44 1 5,cK 46 45 5,gJ 47 9 3 1 9,zIC 49 48 2 9,zID 46 49 50 50 5,jW 42 50 51 4])) .ret))))))
def Yc:aJ:=⟨[.rd true kN,.rd true [.d,.d,.d,.d]],(.one false [.d])⟩
def Mo:aH:=aA [(48,j_)]
def Mq (n:Nat):dE × kr->Option ((Bool) × Unit):=aD n Mo Mm [bu,dD] [.b] [] [4] .no
def BM:=Mq BIG
def Mr:TSp:=⟨Yc,[bu,dD],[.b],[],Ou.j .no,BM⟩
theorem ajV:aM PG Mo 134 Yc (Mm.ht 52) .no=some (Mm.wc Mo,[4]):=by kernel_rfl
theorem Ug:Mr.Ok PG 134:=aN (aa iU (ak PG)) ajV (by kernel_rfl)
theorem ajW (n) (a0) (a1):Mq n (a0,a1) = (bif decide (a1.2.1=(4:Int)) then some ((1:Int),(a0.2.2.2.1.length:Int)) else some ((0:Int),IntKind.wrap .i64 (a0.1-(1:Int))):Option aF).bind fun x0=> ((dZ (a1.2.1,(1:Int),(4:Int))).bind fun r1=> bif !r1.1 then some true else (dZ (a1.2.2.1,(0:Int),IntKind.wrap .i64 (a0.1-(1:Int)))).bind fun r2=> bif !r2.1 then some true else (dZ (a1.2.2.2,x0.1,x0.2)).bind fun r3=> some !r3.1:Option (Bool)).bind fun x4=> bif x4 then some (true,()) else (bif decide (a1.2.2.1=a1.2.2.2) then bif decide (a1.2.1=(1:Int)) then some true else some (decide (a1.2.1=(2:Int))) else some false:Option (Bool)).bind fun x5=> some (x5,()):=by kernel_rfl
def Ig:TC:=
 (zS [iH 3 1] (zQ (.seq (.join [⟨30,[.b],false⟩] 2147483616 none (zR [af 5 0,lD 6 48 5 12,gX 7 6,af 8 7,qz 9 3,Bi 10 3 0 9 3,Kq 48 10 100000 11 11 3,nO 12 11 3 8,dw 15 0 9,gJ 16 9 3 2 9,yX 144 15 17 18 18 9,nO 19 18 9 14,xA 22 16 3 3,zIE 24 23 16,dw 25 24 16,gU 26 20 3 1,zHy 28 27 20,xB 25 28 29 29 16 21])) (zC 30 (zS [a_ 4] .ret) .skip)) (zQ (.join [] 576460750155939856 (some [⟨4,[.b],false⟩]) (zS [aW 31 3 1] (.block 0 (zQ (.join [⟨33,[.b],false⟩] 60129542144 none (zS [fV 34 32 1,af 33 34] (zC 33 .skip (zR [fV 35 32 2,af 33 35])))) (zC 33 (zS [aW 36 3 2,dW 38 37,fV 39 38 1,af 4 39] .ret) (zS [fV 41 32 3,af 40 41] (zC 40 (zQ (.join [⟨4,[.b],false⟩] 9002801208229904 none (zR [aW 42 3 2,dW 44 43,fV 45 44 0,ow 46 45 4 3 3 4,cK 49 0 4,EX 50 49 4,Xy 48 48 50 51 51 4,jW 46 51 52 4])) .ret) (zS [fV 54 32 4,af 53 54] (zC 53 (zS [aW 55 3 2,dW 57 56,zAd 58 57 0,af 4 58] .ret) .skip))))))))) (zS [a_ 4] .ret))))
def Uh:aJ:=⟨[.rd false [.d],.rd true Kn],(.one false [.d])⟩
def Ih:aH:=aA [(48,j_),(144,sP)]
def Ii (n:Nat):Int × y_->Option ((Bool) × Unit):=aD n Ih Ig [[.i .i64],ib] [.b] [] [4] .no
def x_:=Ii BIG
def Ij:TSp:=⟨Uh,[[.i .i64],ib],[.b],[],Ou.j .no,x_⟩
theorem ahe:aM PG Ih 64 Uh (Ig.ht 59) .no=some (Ig.wc Ih,[4]):=by kernel_rfl
theorem Ps:Ij.Ok PG 64:=aN (aa iU (aa vI (ak PG))) ahe (by kernel_rfl)
theorem ahf (n) (a0) (a1):Ii n (a0,a1) = ((dZ (a0,(1:Int),(12:Int))).bind fun r0=> bif !r0.1 then some true else (dZ (a1.1,(1:Int),(100000:Int))).bind fun r1=> bif !r1.1 then some true else (nG (a0,a1.2.2.1)).bind fun r2=> bif !r2.1 then some true else bif !decide (a1.2.2.2=(0:Int)) then some (!decide (a1.2.1=(3:Int))) else some false:Option (Bool)).bind fun x3=> bif x3 then some (false,()) else ((bif decide (a1.2.1=(1:Int)) then some true else some (decide (a1.2.1=(2:Int))):Option (Bool)).bind fun x4=> bif x4 then some (Sum.inr (decide ((a1.2.2.1.length:Int)=(1:Int)))) else bif decide (a1.2.1=(3:Int)) then (bif decide ((a1.2.2.1.length:Int)=(0:Int)) then (dZ (a1.2.2.2,(0:Int),IntKind.wrap .i64 (a0-(1:Int)))).bind fun r5=> some r5.1 else some false:Option (Bool)).bind fun x6=> some (Sum.inr x6) else bif decide (a1.2.1=(4:Int)) then some (Sum.inr (decide ((0:Int)<(a1.2.2.1.length:Int)))) else some (Sum.inl ()):Option ((Unit) ⊕ (Bool))).bind fun y=>match y with | .inl x7=> some (false,()) | .inr x7=> some (x7,()):=by kernel_rfl
def Ms:TC:=
 (zS [iH 1 0] (zS [bO 5,nK 6 1 5 5 9,zHw 3 1000000004,cZ 3 3 6] (zQ (zS [bS 7 3 9,dH 8 145 7] (zC 8 (zS [gu 2] .ret) .skip)) (zS [bO 9,nK 10 3 0 9 4,zIj 4 1000000005,cZ 4 4 10] (zQ (.seq (.join [⟨24,[.b],false⟩] 33552384 none (zR [aW 11 4 0,lD 13 48 12 100000,jg 14 13,gJ 16 4 4 1 4,zIC 18 17 3 4,Bl 15 18 19,wu 21 1 15 9,Kw 22 4 4 9 134 21 9,mK 20 23 24])) (zC 24 (zS [a_ 2] .ret) .skip)) (zQ (.join [⟨2,[.b],false⟩] 1152921504573292548 none (zR [ky 25 3 4 1 3,dW 29 28,zHv 30 48 26 1 29,ow 31 30 6 1 0 6,jA 34 6,zGk 35 3 5 34 4 6,l7 64 33 35 36 36 6,iT 31 36 37,jA 39 13,ol 40 39 13,l6 41 3 5 40 13,gU 42 13 1 4,gU 44 13 3 4,EX 46 45 13,kT 47 43 46 13,tV 48 43 1 47 13,zHd 49 48 13,xu 50 41 49 13,iT 38 50 51,gU 53 27 1 14,gU 55 27 4 0,l7 49 54 56 57 57 27,zAi 58 57 0 27,jW 52 58 59 2])) .ret))))))
def Yd:aJ:=⟨[.rd true kN],(.one false [.d])⟩
def Mt:aH:=aA [(145,Yb),(48,j_),(134,Mr),(64,Ij),(49,wG)]
def Mv (n:Nat):dE->Option ((Bool) × Unit):=aD n Mt Ms [bu] [.b] [] [2] .no
def Mw:=Mv BIG
def Ye:TSp:=⟨Yd,[bu],[.b],[],Ou.j .no,Mw⟩
theorem ajX:aM PG Mt 62 Yd (Ms.ht 60) .no=some (Ms.wc Mt,[2]):=by kernel_rfl
theorem ahg:Ye.Ok PG 62:=aN (aa ahd (aa iU (aa Ug (aa Ps (aa xZ (ak PG)))))) ajX (by kernel_rfl)
theorem ajY (n) (a0):Mv n a0 = (Ml (a0.2.2.2.2.2.1,a0.2.2.2.2.2.2.1,a0.2.2.2.2.2.2.2.1,a0.2.2.2.2.2.2.2.2.1,a0.2.2.2.2.2.2.2.2.2.1,a0.2.2.2.2.2.2.2.2.2.2.1,a0.2.2.2.2.2.2.2.2.2.2.2.1,a0.2.2.2.2.2.2.2.2.2.2.2.2.1,a0.2.2.2.2.2.2.2.2.2.2.2.2.2.1)).bind fun r0=> bif r0.1 then some (true,()) else ((dZ (a0.2.2.2.2.2.1,(1:Int),(100000:Int))).bind fun r1=> bif !r1.1 then some true else bif decide (a0.2.2.2.2.2.2.1=(3:Int)) then some true else (BM (a0,(a0.2.2.2.2.2.1,a0.2.2.2.2.2.2.1,a0.2.2.2.2.2.2.2.1,a0.2.2.2.2.2.2.2.2.1))).bind fun r2=> some r2.1:Option (Bool)).bind fun x3=> bif x3 then some (false,()) else ((dZ (a0.2.2.2.2.2.2.2.2.2.1,(1:Int),(a0.2.2.2.1.length:Int))).bind fun r4=> bif r4.1 then (x_ (a0.1,(a0.2.2.2.2.2.2.2.2.2.2.1,a0.2.2.2.2.2.2.2.2.2.2.2.1,a0.2.2.2.2.2.2.2.2.2.2.2.2.1,a0.2.2.2.2.2.2.2.2.2.2.2.2.2.1))).bind fun r5=> bif r5.1 then bnd a0.2.2.2.2.1.length (IntKind.wrap .i64 (a0.2.2.2.2.2.2.2.2.2.1-(1:Int))) fun n6=> a0.2.2.2.2.1[n6]?.bind fun y7=> bif decide (a0.2.2.2.2.2.2.2.2.2.2.1=(IntKind.wrap .i64 (y7+(1:Int)))) then (qF (a0.2.2.2.2.2.2.2.2.2.2.2.2.2.2,a0.2.2.2.2.2.1)).bind fun r8=> some (decide (r8.1<(0:Int))) else some false else some false else some false:Option (Bool)).bind fun x9=> some (x9,()):=by kernel_rfl
def Mx:TC:=
 (zS [iH 1 0] (zQ (.seq (.join [⟨24,[.b],false⟩] 33554400 none (zR [eZ 5 1 0 5,lD 7 48 6 12,gX 8 7,af 9 8,gJ 10 4 1 3 4,OG 12 11 4,Kq 48 12 3 13 13 4,nO 14 13 4 9,Tf 17 11 1 4,Tf 20 11 1 3,xy 23 19 22 11,mK 16 23 24])) (zC 24 (zS [a_ 2] .ret) .skip)) (zQ (.join [] 281474943156252 (some [⟨2,[.b],false⟩]) (zS [aW 25 1 3,jh 27 26] (.block 0 (.loop [⟨28,[.i .i64],false⟩] 281474708275228 (zS [d_ 29 28 27] (zQ (zC 29 .skip (.exit 0)) (zQ (.join [] 140736414613532 (some [⟨2,[.b],false⟩]) (.block 1 (zS [af 30 28,kv 31 26 28 1,af 3 30,af 4 32] (zQ (.join [⟨46,[.b],false⟩] 140728898420736 none (zR [aW 33 1 0,af 35 4,fG 36 59 34 35,jg 37 36,gJ 39 5 1 4 5,dw 41 3 5,Ku 42 40 41 5,Ta 43 40 1 42 5,zHz 48 43 0 99991 44 44 5,nL 45 44 5 38])) (zC 46 (zS [a_ 2] .ret) .skip))))) (zR [kQ 47 28])))))))) (zQ (.join [⟨2,[.b],false⟩] 576179277326712836 none (zR [tX 48 1 15 60,ow 50 49 2 1 14 2,zEw 61 52 53 53 2,iT 50 53 54,zHx 56 1 15 7,zEw 62 56 57 57 7,jW 55 57 58 2])) .ret))))
def Yf:aJ:=⟨[.rd true kN],(.one false [.d])⟩
def MB:aH:=aA [(48,j_),(59,DV),(60,abk),(61,X_),(62,Ye)]
def MC (n:Nat):dE->Option ((Bool) × Unit):=aD n MB Mx [bu] [.b] [] [2] .no
def kX:=MC BIG
def BN:TSp:=⟨Yf,[bu],[.b],[],Ou.j .no,kX⟩
theorem ajZ:aM PG MB 12 Yf (Mx.ht 59) .no=some (Mx.wc MB,[2]):=by kernel_rfl
theorem Ik:BN.Ok PG 12:=aN (aa iU (aa LY (aa ajO (aa ahc (aa ahg (ak PG)))))) ajZ (by kernel_rfl)
theorem aj0 (n) (a0):MC n a0 =
 ((dZ (a0.1,(1:Int),(12:Int))).bind fun r0=>
  bif !r0.1 then
   some true
  else (dZ ((a0.2.2.2.1.length:Int),(1:Int),(3:Int))).bind fun r1=>
  bif !r1.1 then
   some true
  else some (!decide ((a0.2.2.2.2.1.length:Int)=(a0.2.2.2.1.length:Int))):Option (Bool)).bind fun x2=>
 bif x2 then
  some (false,())
 else (aI n (X:=Int) (B:=(Unit) ⊕ (Bool)) (fun self4 x3=>
  bif decide (x3<(a0.2.2.2.1.length:Int)) then
   (bnd a0.2.2.2.1.length x3 fun n5=>
    a0.2.2.2.1[n5]?.bind fun y6=>
    ((vH (a0.1,y6)).bind fun r7=>
     bif !r7.1 then
      some true
     else bnd a0.2.2.2.2.1.length x3 fun n8=>
     a0.2.2.2.2.1[n8]?.bind fun y9=>
     (dZ (y9,(0:Int),(99991:Int))).bind fun r10=>
     some !r10.1:Option (Bool)).bind fun x11=>
    bif x11 then
     some (Sum.inr false)
    else some (Sum.inl ()):Option ((Unit) ⊕ (Bool))).bind fun y=>match y with
   | .inl x12=>
    self4 (IntKind.wrap .i64 (x3+(1:Int)))
   | .inr x12=>
    some (Sum.inr x12)
  else some (Sum.inl ())) (0:Int):Option ((Unit) ⊕ (Bool))).bind fun y=>match y with
 | .inl x13=>
  ((Q7 a0).bind fun r14=>
   bif r14.1 then
    (Mh a0.2.2.2.2.2.2.2.2.2.2.2.2.2.2).bind fun r15=>
    bif r15.1 then
     (Mw a0).bind fun r16=>
     some r16.1
    else some false
   else some false:Option (Bool)).bind fun x17=>
  some (x17,())
 | .inr x13=>
  some (x13,()):=by kernel_rfl
def VW:TC:=
 (zS [iH 1 0] (zS [bO 3,yU 4 3,iR 5 1 9 4,zDf 6 5 0,af 2 6] .ret))
def ae1:aJ:=⟨[.rd true kN],(.one false [.d])⟩
def VX:aH:=aA []
def ae2 (n:Nat):dE->Option ((Bool) × Unit):=aD n VX VW [bu] [.b] [] [2] .no
def qG:=ae2 BIG
def N_:TSp:=⟨ae1,[bu],[.b],[],Ou.j .no,qG⟩
theorem anX:aM PG VX 13 ae1 (VW.ht 7) .no=some (VW.wc VX,[2]):=by kernel_rfl
theorem Q8:N_.Ok PG 13:=aN (ak PG) anX (by kernel_rfl)
theorem anY (n) (a0):ae2 n a0 = some (!decide (a0.2.2.2.2.2.2.2.2.2.1=(0:Int)),()):=by kernel_rfl
def DW:TC:=
 (zS [bM 4 1,bC 6] (zS [bQ 7,bQ 8,af 15 2,qy 9 8,yU 10 9,zBr 11 0 14 10,aW 12 4 0,bS 14 4 4,zHB 16 13 14 15,zHC 17 16,Kr 11 11 17 18 11 11 0 18,gN 19 7,rD 0 18 11 0 14 20 18] (zS [iq 6 1] .ret)))
def Pv:aJ:=⟨[.mp kN,.rd true [.d,.d,.d,.d],.rd false [.d]],(.one false [.d])⟩
def DY:aH:=aA []
def DZ (n:Nat):dE × kr × Int->Option ((Int) × Int × List Int × List aF × List (List Int) × List Int × Int × Int × Int × Int × Int × Int × Int × List aF × Int × List lU):=aD n DY DW [bu,dD,[.i .i64]] [.i .i64] bu [6] (.mp 0)
def eB:=DZ BIG
def oF:TSp:=⟨Pv,[bu,dD,[.i .i64]],[.i .i64],bu,Ou.j (.mp 0),eB⟩
theorem adi:aM PG DY 73 Pv (DW.ht 21) (.mp 0)=some (DW.wc DY,[6]):=by kernel_rfl
theorem sQ:oF.Ok PG 73:=aN (ak PG) adi (by kernel_rfl)
theorem adj (n) (a0) (a1) (a2):DZ n (a0,a1,a2) = bif decide (a0.2.2.2.2.2.2.2.2.2.2.2.2.2.2.length+([(a1.1,a1.1,a1.2.1,a1.2.2.1,a1.2.2.2,a2)]).length<=4294967296) then some ((1:Int),(a0.1,a0.2.1,a0.2.2.1,a0.2.2.2.1,a0.2.2.2.2.1,a0.2.2.2.2.2.1,a0.2.2.2.2.2.2.1,a0.2.2.2.2.2.2.2.1,a0.2.2.2.2.2.2.2.2.1,a0.2.2.2.2.2.2.2.2.2.1,a0.2.2.2.2.2.2.2.2.2.2.1,a0.2.2.2.2.2.2.2.2.2.2.2.1,a0.2.2.2.2.2.2.2.2.2.2.2.2.1,a0.2.2.2.2.2.2.2.2.2.2.2.2.2.1,a0.2.2.2.2.2.2.2.2.2.2.2.2.2.2++([(a1.1,a1.1,a1.2.1,a1.2.2.1,a1.2.2.2,a2)]))) else none:=by kernel_rfl
def Q9:TC:=
 (zS [tT 2] (zS [tT 3] (zQ (.join [⟨3,[.sl [.i .i64]],false⟩] 16376 none (zS [af 5 0,bC 6] (.block 0 (.loop [⟨3,[.sl [.i .i64]],false⟩,⟨6,[.i .i64],false⟩] 16344 (zS [d_ 7 6 5] (zQ (zC 7 .skip (.exit 0)) (zQ (.block 1 (zS [af 8 6,af 4 8] (zR [bH 3 9 3,af 10 4,Ko 11 10,Kv 9 11 12 9 3]))) (zR [Be 13 6,af 6 13])))))))) (zS [om 3 14 3 2] .ret))))
def abl:aJ:=⟨[.rd false [.d]],(.one false dY)⟩
def Q_:aH:=aA []
def Ra (n:Nat):Int->Option ((List Int) × Unit):=aD n Q_ Q9 [[.i .i64]] [.sl [.i .i64]] [] [2] .no
def Ad:=Ra BIG
def Il:TSp:=⟨abl,[[.i .i64]],[.sl [.i .i64]],[],Ou.j .no,Ad⟩
theorem alN:aM PG Q_ 177 abl (Q9.ht 15) .no=some (Q9.wc Q_,[2]):=by kernel_rfl
theorem ME:Il.Ok PG 177:=aN (ak PG) alN (by kernel_rfl)
theorem alO (n) (a0):Ra n a0 = (aI n (X:=(List Int) × Int) (B:=(List Int)) (fun self1 x0=> bif decide (x0.2<a0) then bif decide (x0.1.length+[x0.2].length<=4294967296) then self1 (x0.1++[x0.2],IntKind.wrap .i64 (x0.2+(1:Int))) else none else some x0.1) ([],(0:Int)):Option ((List Int))).bind fun x2=> some (x2,()):=by kernel_rfl
def Rb:TC:=
 (zS [a_ 6] (zS [cO 10 0,af 11 1,cO 14 0,af 15 2,mM 12 10 11 0 1,mM 16 14 15 0 1,di 7 13 17] (zQ (zS [di 18 7 8,kP 20 18 19] (zC 20 (zS [a_ 6] .ret) .skip)) (zQ (.join [⟨0,[.sl [.i .i64]],false⟩] 2199021158913 none (zS [cO 21 0,jh 22 21] (.block 0 (.loop [⟨0,[.sl [.i .i64]],false⟩,⟨23,[.i .i64],false⟩] 2199016982017 (zS [d_ 24 23 22] (zQ (zC 24 .skip (.exit 0)) (zQ (.join [⟨0,[.sl [.i .i64]],false⟩] 1099478073857 none (.block 1 (zS [af 25 23,af 9 25] (zS [cO 26 0,af 27 9,mM 28 26 27 0 1,di 30 7 8,[o1 32 (.data .max [.t 30,.t 31])],kP 33 29 32] (zC 33 (zR [cO 34 0,di 35 9 7,af 37 8,[o1 38 (.data .min [.t 36,.t 37])],jy 39 34 35,[o4 1 [0,26,34] (.store 0 [(0,1)] 0 (.t 39) (.t 38))]]) .skip))))) (zR [kQ 40 23])))))))) (zS [gu 6] .ret)))))
def abm:aJ:=⟨[.mt false dY,.rd false [.d],.rd false [.d]],(.one false [.d])⟩
def Rc:aH:=aA []
def Re (n:Nat):List Int × Int × Int->Option ((Bool) × List Int):=aD n Rc Rb [[.sl [.i .i64]],[.i .i64],[.i .i64]] [.b] [.sl [.i .i64]] [6] (.mt 0 0 0)
def uM:=Re BIG
def Im:TSp:=⟨abm,[[.sl [.i .i64]],[.i .i64],[.i .i64]],[.b],[.sl [.i .i64]],Ou.j (.mt 0 0 0),uM⟩
theorem alP:aM PG Rc 188 abm (Rb.ht 41) (.mt 0 0 0)=some (Rb.wc Rc,[6]):=by kernel_rfl
theorem MF:Im.Ok PG 188:=aN (ak PG) alP (by kernel_rfl)
theorem alQ (n) (a0) (a1) (a2):Re n (a0,a1,a2) = bnd a0.length a1 fun n0=> a0[n0]?.bind fun y1=> bnd a0.length a2 fun n2=> a0[n2]?.bind fun y3=> bif decide (y1=y3) then some (false,a0) else (aI n (X:=(List Int) × Int) (B:=(List Int)) (fun self5 x4=> bif decide (x4.2<(a0.length:Int)) then (bnd x4.1.length x4.2 fun n6=> x4.1[n6]?.bind fun y7=> bif decide (y7=(if y3 > y1 then y3 else y1)) then bnd x4.1.length x4.2 fun n8=> x4.1[n8]?.bind fun y9=> some (x4.1.set n8 (if y3<y1 then y3 else y1)) else some x4.1:Option ((List Int))).bind fun x10=> self5 (x10,IntKind.wrap .i64 (x4.2+(1:Int))) else some x4.1) (a0,(0:Int)):Option ((List Int))).bind fun x11=> some (true,x11):=by kernel_rfl
def uN:TC:=
 (zS [tT 6,a_ 7] (zQ (.seq (.join [⟨22,[.b],false⟩] 8355840 none (zR [af 15 0,lD 16 48 15 12,jg 17 16,dw 19 1 3,OG 20 19 3,Xz 21 20 3 3,mK 18 21 22])) (zC 22 (zS [tT 6,a_ 7] .ret) .skip)) (zS [af 23 0,dH 24 177 23,bH 24 8 24] (zQ (.join [⟨8,[.sl [.i .i64]],false⟩] 4503599593823680 (some [⟨6,[.sl [.i .i64]],false⟩,⟨7,[.b],false⟩]) (zS [af 25 1,jh 26 25] (.block 0 (.loop [⟨8,[.sl [.i .i64]],false⟩,⟨27,[.i .i64],false⟩] 4503599493160384 (zS [d_ 28 27 26] (zQ (zC 28 .skip (.exit 0)) (zQ (.join [⟨8,[.sl [.i .i64]],false⟩] 2251799276821952 (some [⟨6,[.sl [.i .i64]],false⟩,⟨7,[.b],false⟩]) (.block 1 (zS [kv 29 25 27 1,af 10 30] (zQ (zS [af 31 10,dW 32 31,af 33 0,xw 34 32 33] (zC 34 (zS [tT 6,a_ 7] .ret) .skip)) (zS [af 35 10,jh 36 35] (.block 2 (.loop [⟨8,[.sl [.i .i64]],false⟩,⟨37,[.i .i64],false⟩] 2251662374738368 (zS [d_ 38 37 36] (zQ (zC 38 .skip (.exit 2)) (zQ (.block 3 (zS [af 39 37,kv 40 35 37 1,af 11 39,af 12 41] (zQ (zS [di 42 12 11,OH 44 48 42 43,gX 45 44] (zC 45 (zS [tT 6,a_ 7] .ret) .skip)) (zR [cO 46 8,di 47 12 11,zJa 46 47 48 8 46 49 8 46 49])))) (zR [kQ 50 37]))))))))))) (zR [kQ 51 27])))))))) (zQ (.join [⟨8,[.sl [.i .i64]],false⟩] 590291306759078298048 (some [⟨6,[.sl [.i .i64]],false⟩,⟨7,[.b],false⟩]) (zS [af 52 2,jh 53 52] (.block 4 (.loop [⟨8,[.sl [.i .i64]],false⟩,⟨54,[.i .i64],false⟩] 590277795960196186560 (zS [d_ 55 54 53] (zQ (zC 55 .skip (.exit 4)) (zQ (.block 5 (zS [jV 56 52 54 2 2,l8 14 1000000015,cZ 14 14 57] (zQ (zS [af 58 0,nN 59 14 2 189 58,gX 61 60] (zC 61 (zS [tT 6,a_ 7] .ret) .skip)) (zR [cO 62 8,aW 63 14 0,aW 65 14 1,zJa 62 64 66 8 62 67 8 62 67])))) (zR [kQ 68 54])))))))) (zS [om 8 69 8 6,gu 7] .ret))))))
def Ff:aJ:=⟨[.rd false [.d],.rd false [.sl (.own none) dY],.rd false fJ],(.tup [(false,1),(false,1)] agj)⟩
def uO:aH:=aA [(48,j_),(177,Il),(188,Im),(189,BL)]
def uP (n:Nat):Int × List (List Int) × (List aF)->Option ((List Int × Bool) × Unit):=aD n uO uN [[.i .i64],[.sl [.sl [.i .i64]]],[.sl [.i .i64,.i .i64]]] [.sl [.i .i64],.b] [] [6,7] .no
def uQ:=uP BIG
def Fg:TSp:=⟨Ff,[[.i .i64],[.sl [.sl [.i .i64]]],[.sl [.i .i64,.i .i64]]],[.sl [.i .i64],.b],[],Ou.j .no,uQ⟩
theorem VY:aM PG uO 135 Ff (uN.ht 70) .no=some (uN.wc uO,[6,7]):=by kernel_rfl
theorem Ui:Fg.Ok PG 135:=aN (aa iU (aa ME (aa MF (aa H_ (ak PG))))) VY (by kernel_rfl)
theorem VZ (n) (a0) (a1) (a2):uP n (a0,a1,a2) =
 ((dZ (a0,(1:Int),(12:Int))).bind fun r0=>
  bif !r0.1 then
   some true
  else some (decide ((3:Int)<(a1.length:Int))):Option (Bool)).bind fun x1=>
 bif x1 then
  some (([],false),())
 else (Ad a0).bind fun r2=>
 (aI n (X:=(List Int) × Int) (B:=((List Int)) ⊕ ((List Int) × Bool)) (fun self4 x3=>
  bif decide (x3.2<(a1.length:Int)) then
   (bnd a1.length x3.2 fun n5=>
    a1[n5]?.bind fun y6=>
    bif !decide ((y6.length:Int)=a0) then
     some (Sum.inr ([],false))
    else aI n (X:=(List Int) × Int) (B:=((List Int)) ⊕ ((List Int) × Bool)) (fun self8 x7=>
     bif decide (x7.2<(y6.length:Int)) then
      bnd y6.length x7.2 fun n9=>
      y6[n9]?.bind fun y10=>
      (dZ (y10,(0:Int),x7.2)).bind fun r11=>
      bif !r11.1 then
       some (Sum.inr ([],false))
      else (uM (x7.1,y10,x7.2)).bind fun r12=>
      self8 (r12.2,IntKind.wrap .i64 (x7.2+(1:Int)))
     else some (Sum.inl x7.1)) (x3.1,(0:Int)):Option (((List Int)) ⊕ ((List Int) × Bool))).bind fun y=>match y with
   | .inl x13=>
    self4 (x13,IntKind.wrap .i64 (x3.2+(1:Int)))
   | .inr x13=>
    some (Sum.inr (x13.1,x13.2))
  else some (Sum.inl x3.1)) (r2.1,(0:Int)):Option (((List Int)) ⊕ ((List Int) × Bool))).bind fun y=>match y with
 | .inl x14=>
  (aI n (X:=(List Int) × Int) (B:=((List Int)) ⊕ ((List Int) × Bool)) (fun self16 x15=>
   bif decide (x15.2<(a2.length:Int)) then
    bnd a2.length x15.2 fun n17=>
    a2[n17]?.bind fun y18=>
    (wF (a0,y18)).bind fun r19=>
    bif !r19.1 then
     some (Sum.inr ([],false))
    else (uM (x15.1,y18.1,y18.2)).bind fun r20=>
    self16 (r20.2,IntKind.wrap .i64 (x15.2+(1:Int)))
   else some (Sum.inl x15.1)) (x14,(0:Int)):Option (((List Int)) ⊕ ((List Int) × Bool))).bind fun y=>match y with
  | .inl x21=>
   some ((x21,true),())
  | .inr x21=>
   some (x21,())
 | .inr x14=>
  some (x14,()):=by kernel_rfl
def Rf:TC:=
 (zS [bC 2] (zQ (zS [af 3 0] (zC 3 (zS [iq 2 1] .ret) .skip)) (zS [iq 2 2] .ret)))
def abn:aJ:=⟨[.rd false [.d]],(.one false [.d])⟩
def Rh:aH:=aA []
def Ri (n:Nat):Bool->Option ((Int) × Unit):=aD n Rh Rf [[.b]] [.i .i64] [] [2] .no
def Io:=Ri BIG
def Rj:TSp:=⟨abn,[[.b]],[.i .i64],[],Ou.j .no,Io⟩
theorem alR:aM PG Rh 74 abn (Rf.ht 4) .no=some (Rf.wc Rh,[2]):=by kernel_rfl
theorem Yg:Rj.Ok PG 74:=aN (ak PG) alR (by kernel_rfl)
theorem alS (n) (a0):Ri n a0 = bif a0 then some ((1:Int),()) else some ((2:Int),()):=by kernel_rfl
def wW:TC:=
 (zS [bM 5 1,[o5 (.a (.t 3)) 7 3],bC 8] (zS [bQ 9,ww 10 9 0 4,af 13 2,oh 14 13,Bp 15 12 14 0 4 1,Be 17 16,bO 18,Bf 7 7 0 18 17] (zS [tY 19 5 4,af 21 2,gI 22 7 4,zHE,gN 24 19,zIa 0 23 12 15 0 5 25 23] (zS [iq 8 2] .ret))))
def JK:aJ:=⟨[.mp kN,.rd true [.d,.d,.d,.d],.rd false [.d],.tk true Kn],(.one false [.d])⟩
def wX:aH:=aA []
def oO (n:Nat):dE × kr × Int × y_->Option ((Int) × Int × List Int × List aF × List (List Int) × List Int × Int × Int × Int × Int × Int × Int × Int × List aF × Int × List lU):=aD n wX wW [bu,dD,[.i .i64],ib] [.i .i64] bu [8] (.mp 0)
def iP:=oO BIG
def oP:TSp:=⟨JK,[bu,dD,[.i .i64],ib],[.i .i64],bu,Ou.j (.mp 0),iP⟩
theorem YN:aM PG wX 136 JK (wW.ht 26) (.mp 0)=some (wW.wc wX,[8]):=by kernel_rfl
theorem uR:oP.Ok PG 136:=aN (ak PG) YN (by kernel_rfl)
theorem JL (n) (a0) (a1) (a2) (a3):oO n (a0,a1,a2,a3) = bnd a0.2.2.2.2.1.length (IntKind.wrap .i64 (a2-(1:Int))) fun n0=> a0.2.2.2.2.1[n0]?.bind fun y1=> some ((2:Int),(a0.1,a0.2.1,a0.2.2.1,a0.2.2.2.1,a0.2.2.2.2.1,a1.1,a1.2.1,a1.2.2.1,a1.2.2.2,a2,IntKind.wrap .i64 (y1+(1:Int)),a3.2.1,a3.2.2.1,a3.2.2.2,a0.2.2.2.2.2.2.2.2.2.2.2.2.2.2)):=by kernel_rfl
def MG:TC:=
 (zS [bM 1 0,l8 2 1000000003] (zS [eZ 3 1 2 3,eZ 5 1 3 5,[o1 7 (.data .min [.t 4,.t 6])],eZ 8 1 2 8,aW 10 1 3,[o1 12 (.data .max [.t 9,.t 11])],JB 13 7 12,cZ 2 2 13] .ret))
def Yh:aJ:=⟨[.rd true [.d,.d,.d,.d]],(.one true [.d,.d])⟩
def MH:aH:=aA []
def MI (n:Nat):kr->Option (aF × Unit):=aD n MH MG [dD] [.i .i64,.i .i64] [] [2] .no
def MJ:=MI BIG
def Yi:TSp:=⟨Yh,[dD],[.i .i64,.i .i64],[],Ou.j .no,MJ⟩
theorem aj1:aM PG MH 190 Yh (MG.ht 14) .no=some (MG.wc MH,[2]):=by kernel_rfl
theorem ahh:Yi.Ok PG 190:=aN (ak PG) aj1 (by kernel_rfl)
theorem aj2 (n) (a0):MI n a0 = some (((if a0.2.2.2<a0.2.2.1 then a0.2.2.2 else a0.2.2.1),(if a0.2.2.2 > a0.2.2.1 then a0.2.2.2 else a0.2.2.1)),()):=by kernel_rfl
def Ip:TC:=
 (zS [iH 3 1] (zQ (.join [] 131024 (some [⟨4,[.b],false⟩]) (zS [af 7 0,jh 8 7] (.block 0 (.loop [⟨9,[.i .i64],false⟩] 130640 (zS [d_ 10 9 8] (zQ (zC 10 .skip (.exit 0)) (zQ (.block 1 (zS [jy 11 7 9,JC 12 7 2 11 2,l8 6 1000000007,cZ 6 6 12] (zS [bS 13 6 2,bS 14 3 2,[o1 15 (.eqA [.i,.i] (.t 13) (.t 14) false)]] (zC 15 (zS [gu 4] .ret) .skip)))) (zR [Be 16 9,af 9 16])))))))) (zS [a_ 4] .ret)))
def Uj:aJ:=⟨[.rd false fJ,.rd true [.d,.d]],(.one false [.d])⟩
def Iq:aH:=aA []
def Ir (n:Nat):(List aF) × aF->Option ((Bool) × Unit):=aD n Iq Ip [[.sl [.i .i64,.i .i64]],[.i .i64,.i .i64]] [.b] [] [4] .no
def sU:=Ir BIG
def yc:TSp:=⟨Uj,[[.sl [.i .i64,.i .i64]],[.i .i64,.i .i64]],[.b],[],Ou.j .no,sU⟩
theorem ahi:aM PG Iq 155 Uj (Ip.ht 17) .no=some (Ip.wc Iq,[4]):=by kernel_rfl
theorem D5:yc.Ok PG 155:=aN (ak PG) ahi (by kernel_rfl)
theorem ahj (n) (a0) (a1):Ir n (a0,a1) = (aI n (X:=Int) (B:=(Unit) ⊕ (Bool)) (fun self1 x0=> bif decide (x0<(a0.length:Int)) then bnd a0.length x0 fun n2=> a0[n2]?.bind fun y3=> bif (decide (y3.1=a1.1)&&(decide (y3.2=a1.2)&&true)) then some (Sum.inr true) else self1 (IntKind.wrap .i64 (x0+(1:Int))) else some (Sum.inl ())) (0:Int):Option ((Unit) ⊕ (Bool))).bind fun y=>match y with | .inl x4=> some (false,()) | .inr x4=> some (x4,()):=by kernel_rfl
def D6:TC:=
 (zS [bM 3 1,wm 4] (zS [bC 5] (zQ (.join [⟨5,[.i .i64],false⟩] 1048544 none (.block 0 (.loop [⟨5,[.i .i64],false⟩] 1048544 (zQ (.seq (.join [⟨17,[.b],false⟩] 262080 none (zR [di 6 5 0,dW 8 7,d_ 9 6 8,af 10 9,cK 11 0 4,cK 12 5 4,kT 13 11 12 4,zDx 14 11 2 13 2 4,zHx 15 3 2 4,l7 192 14 15 16 16 4,lC 10 16 17])) (zC 17 .skip (.exit 0))) (.block 1 (zR [eF 18 5 5])))))) (zS [di 20 0 5,di 27 0 5,[o1 22 (.res 20 none (some (.t 21)))],zIB 23 22,bS 24 3 2,Xx 25 24,wh 23 25 26 23,[o1 29 (.res 27 (some (.t 28)) none)],Kv 26 29 30 26 4] .ret))))
def Pw:aJ:=⟨[.rd false fJ,.rd true [.d,.d]],(.one false fJ)⟩
def D7:aH:=aA [(192,Ia)]
def D8 (n:Nat):(List aF) × aF->Option ((List aF) × Unit):=aD n D7 D6 [[.sl [.i .i64,.i .i64]],[.i .i64,.i .i64]] [.sl [.i .i64,.i .i64]] [] [4] .no
def oG:=D8 BIG
def vJ:TSp:=⟨Pw,[[.sl [.i .i64,.i .i64]],[.i .i64,.i .i64]],[.sl [.i .i64,.i .i64]],[],Ou.j .no,oG⟩
theorem adk:aM PG D7 156 Pw (D6.ht 31) .no=some (D6.wc D7,[4]):=by kernel_rfl
theorem Ae:vJ.Ok PG 156:=aN (aa L9 (ak PG)) adk (by kernel_rfl)
theorem adl (n) (a0) (a1):D8 n (a0,a1) = (aI n (X:=Int) (B:=Int) (fun self1 x0=> (bif decide (x0<(a0.length:Int)) then bnd a0.length x0 fun n2=> a0[n2]?.bind fun y3=> (uL (y3,a1)).bind fun r4=> some r4.1 else some false:Option (Bool)).bind fun x5=> bif x5 then self1 (IntKind.wrap .i64 (x0+(1:Int))) else some x0) (0:Int):Option (Int)).bind fun x6=> bif decide (0<=x6) then bif decide (0<=(Int.toNat x6)/\(Int.toNat x6)<=a0.length) then bif decide ((List.take ((Int.toNat x6)-0) (List.drop 0 a0)).length<=4294967296) then bif decide ((List.take ((Int.toNat x6)-0) (List.drop 0 a0)).length+[a1].length<=4294967296) then bif decide (0<=x6) then bif decide ((Int.toNat x6)<=a0.length/\a0.length<=a0.length) then bif decide (((List.take ((Int.toNat x6)-0) (List.drop 0 a0))++[a1]).length+(List.take (a0.length-(Int.toNat x6)) (List.drop (Int.toNat x6) a0)).length<=4294967296) then some (((List.take ((Int.toNat x6)-0) (List.drop 0 a0))++[a1])++(List.take (a0.length-(Int.toNat x6)) (List.drop (Int.toNat x6) a0)),()) else none else none else none else none else none else none else none:=by kernel_rfl
def uS:TC:=
 (zS [bM 3 1,wm 4] (zS [wm 5] (zQ (.join [⟨5,[.sl [.i .i64,.i .i64]],false⟩] 4194208 none (zS [af 8 0,jh 9 8] (.block 0 (.loop [⟨5,[.sl [.i .i64,.i .i64]],false⟩,⟨10,[.i .i64],false⟩] 4193440 (zS [d_ 11 10 9] (zQ (zC 11 .skip (.exit 0)) (zQ (.join [⟨5,[.sl [.i .i64,.i .i64]],false⟩] 2093216 none (.block 1 (zS [jy 12 8 10,JC 13 8 2 12 2,l8 7 1000000008,cZ 7 7 13] (zS [bS 14 7 2,bS 15 3 2,zEC 16 14 15] (zC 16 (zR [bH 5 17 5,bS 18 7 2,E5 19 18 17 17 5]) .skip))))) (zR [kQ 21 10])))))))) (zS [om 5 22 5 4] .ret))))
def Fh:aJ:=⟨[.rd false fJ,.rd true [.d,.d]],(.one false fJ)⟩
def uT:aH:=aA []
def uU (n:Nat):(List aF) × aF->Option ((List aF) × Unit):=aD n uT uS [[.sl [.i .i64,.i .i64]],[.i .i64,.i .i64]] [.sl [.i .i64,.i .i64]] [] [4] .no
def nH:=uU BIG
def uV:TSp:=⟨Fh,[[.sl [.i .i64,.i .i64]],[.i .i64,.i .i64]],[.sl [.i .i64,.i .i64]],[],Ou.j .no,nH⟩
theorem V3:aM PG uT 158 Fh (uS.ht 23) .no=some (uS.wc uT,[4]):=by kernel_rfl
theorem BP:uV.Ok PG 158:=aN (ak PG) V3 (by kernel_rfl)
theorem V4 (n) (a0) (a1):uU n (a0,a1) = (aI n (X:=(List aF) × Int) (B:=(List aF)) (fun self1 x0=> bif decide (x0.2<(a0.length:Int)) then (bnd a0.length x0.2 fun n2=> a0[n2]?.bind fun y3=> bif !(decide (y3.1=a1.1)&&(decide (y3.2=a1.2)&&true)) then bif decide (x0.1.length+[y3].length<=4294967296) then some (x0.1++[y3]) else none else some x0.1:Option ((List aF))).bind fun x4=> self1 (x4,IntKind.wrap .i64 (x0.2+(1:Int))) else some x0.1) ([],(0:Int)):Option ((List aF))).bind fun x5=> some (x5,()):=by kernel_rfl
def Af:TC:=
 (zS [bM 3 1,bC 4] (zS [bS 7 3 4,dH 8 190 7,l8 5 1000000006,cZ 5 5 8] (zS [bQ 9,ww 10 9 0 2,nN 13 5 2 155 12,af 6 14] (zQ (.join [⟨0,bu,false⟩] 10633823966279326983230456482242727953 (some [⟨4,[.i .i64],false⟩,⟨0,bu,false⟩]) (.block 0 (zQ (.join [⟨15,[.b],false⟩] 274877874176 none (zR [bQ 16,bQ 24,ww 17 16 0 1,aW 20 5 0,Bp 22 19 21 0 1 1,ww 25 24 0 1,aW 28 5 1,Bp 30 27 29 0 1 1,kP 32 23 31,af 33 32,gU 34 17 3 1,zIg 36 35 1 17,jW 33 36 37 15])) (zC 15 (zS [bQ 38,bQ 40,JD 1000000002 3 4 39 39,zJb 1000000002 40 41 41,zHb 1000000002 41 42 42,zIz 1000000002 0 1 42 1 43 43,xz 1000000002 44 44 5 0,zHa 1000000002 43 45 46 46,zHc 1000000002 0 1 1 46 47 47,bS 48 5 2,Xx 49 48,zIe 1 49 50 49 50,[⟨false,[],[],.call 3 136 [.t 0,.t 39,.t 47,.t 50] (.mp 0),[51,0,50,12,19,22,27,30,46,43],(some 51),none⟩],af 4 51] .ret) (zS [bQ 53,bQ 61,ww 54 53 0 1,aW 57 5 0,Bp 59 56 58 0 1 1,ww 62 61 0 1,aW 65 5 1,Bp 67 64 66 0 1 1,kP 69 60 68,af 52 69] (zC 52 (zS [bQ 70,bQ 72,JD 1000000002 3 4 71 71,zJb 1000000002 72 73 73,zHb 1000000002 73 74 74,zIz 1000000002 0 1 74 1 75 75,xz 1000000002 76 76 5 0,zHa 1000000002 75 77 78 78,zHc 1000000002 0 1 1 78 79 79,bS 80 5 2,Xx 81 80,zIe 2 81 82 81 82,[⟨false,[],[],.call 3 136 [.t 0,.t 71,.t 79,.t 82] (.mp 0),[83,0,82,12,19,22,27,30,56,59,64,67,78,75],(some 83),none⟩],af 4 83] .ret) (zQ (.join [⟨84,[.b],false⟩] 4932417344027687032801198080 none (zR [aW 85 3 1,fV 87 86 1,af 88 87,cK 89 6 3,zDz 90 89 3,jW 88 90 91 84])) (zC 84 (zS [bQ 92,Bn 93 0 2,nN 97 5 2 156 96,gN 99 92,zJc 98 96 100 98] (zS [tY 101 3 4,zIb 73 102 1 103 103,af 4 103] .ret)) (zQ (.join [⟨104,[.b],false⟩] 2575866019663762143841300913324032 none (zR [aW 105 3 1,fV 107 106 2,af 108 107,cK 109 6 3,jW 108 109 110 104])) (zC 104 (zS [bQ 111,Bn 112 0 2,nN 116 5 2 158 115,gN 118 111,zJc 117 115 119 117] (zS [tY 120 3 4,zIb 73 121 1 122 122,af 4 122] .ret)) .skip)))))))))) (zS [tY 123 3 4,[⟨false,[],[],.call 2 73 [.t 0,.t 124,kO 2] (.mp 0),[125,0,12,19,22,27,30,56,59,64,67],(some 125),none⟩],af 4 125] .ret)))))
def MK:aJ:=⟨[.mp kN,.rd true [.d,.d,.d,.d]],(.one false [.d])⟩
def Ag:aH:=aA [(190,Yi),(155,yc),(136,oP),(156,vJ),(73,oF),(158,uV)]
def Ah (n:Nat):dE × kr->Option ((Int) × Int × List Int × List aF × List (List Int) × List Int × Int × Int × Int × Int × Int × Int × Int × List aF × Int × List lU):=aD n Ag Af [bu,dD] [.i .i64] bu [4] (.mp 0)
def Ai:=Ah BIG
def ML:TSp:=⟨MK,[bu,dD],[.i .i64],bu,Ou.j (.mp 0),Ai⟩
theorem abo:aM PG Ag 137 MK (Af.ht 126) (.mp 0)=some (Af.wc Ag,[4]):=by kernel_rfl
theorem YO:ML.Ok PG 137:=aN (aa ahh (aa D5 (aa uR (aa Ae (aa sQ (aa BP (ak PG))))))) abo (by kernel_rfl)
theorem abp (n) (a0) (a1):Ah n (a0,a1) = (MJ a1).bind fun r0=> (sU (a0.2.2.1,r0.1)).bind fun r1=> ((bnd a0.2.1.length r0.1.1 fun n2=> a0.2.1[n2]?.bind fun y3=> bnd a0.2.1.length r0.1.2 fun n4=> a0.2.1[n4]?.bind fun y5=> bif decide (y3=y5) then some (decide (a1.2.1=(1:Int))) else some false:Option (Bool)).bind fun x6=> bif x6 then bnd a0.2.1.length r0.1.1 fun n7=> a0.2.1[n7]?.bind fun y8=> (iP (a0,a1,y8,((0:Int),(1:Int),[r0.1],(0:Int)))).bind fun r9=> some (Sum.inr (r9.1,r9.2)) else bnd a0.2.1.length r0.1.1 fun n10=> a0.2.1[n10]?.bind fun y11=> bnd a0.2.1.length r0.1.2 fun n12=> a0.2.1[n12]?.bind fun y13=> bif decide (y11=y13) then bnd a0.2.1.length r0.1.1 fun n14=> a0.2.1[n14]?.bind fun y15=> (iP (a0,a1,y15,((0:Int),(2:Int),[r0.1],(0:Int)))).bind fun r16=> some (Sum.inr (r16.1,r16.2)) else (bif decide (a1.2.1=(1:Int)) then some !r1.1 else some false:Option (Bool)).bind fun x17=> bif x17 then (oG (a0.2.2.1,r0.1)).bind fun r18=> (eB ((a0.1,a0.2.1,r18.1,a0.2.2.2),a1,(1:Int))).bind fun r19=> some (Sum.inr (r19.1,r19.2)) else (bif decide (a1.2.1=(2:Int)) then some r1.1 else some false:Option (Bool)).bind fun x20=> bif x20 then (nH (a0.2.2.1,r0.1)).bind fun r21=> (eB ((a0.1,a0.2.1,r21.1,a0.2.2.2),a1,(1:Int))).bind fun r22=> some (Sum.inr (r22.1,r22.2)) else some (Sum.inl a0):Option ((dE) ⊕ Zt1)).bind fun y=>match y with | .inl x23=> (eB (x23,a1,(2:Int))).bind fun r24=> some (r24.1,r24.2) | .inr x23=> some (x23.1,x23.2):=by kernel_rfl
def Aj:TC:=
 (zS [bM 3 1,bC 4] (zQ (.join [⟨0,bu,false⟩] 618970019642690137449562097 (some [⟨4,[.i .i64],false⟩,⟨0,bu,false⟩]) (.block 0 (zS [bQ 8,qy 9 8,XD 10 0 0 9 15,nN 11 3 4 134 10,af 7 12] (zC 7 (zS [tY 13 3 4,zJd 14 3 15 10 15,af 4 15] .ret) (zS [aW 17 3 1,fV 19 18 3,af 16 19] (zC 16 (zS [bQ 21,bQ 25,bQ 29,gN 22 21,iR 24 0 0 23,ww 26 25 0 3,ww 30 29 0 2,Kt 33 135 24 28 32,Bo 33 20 33 1 1,bH 34 5 34,af 6 35] (zS [bQ 36,cO 38 5,cO 43 5,bS 37 3 4,aW 39 3 2,mM 41 38 40 5 1,aW 44 3 3,mM 46 43 45 5 1,kP 48 42 47,dH 49 74 48,[⟨false,[],[],.call 2 73 [.t 0,.t 37,.t 49] (.mp 0),[50,0,10,28,32],(some 50),none⟩],af 4 50] .ret)) (zQ (.join [⟨51,[.b],false⟩] 295145653379539140608 none (zR [aW 52 3 1,fV 54 53 4,af 55 54,[o2 56 (.p0) 3 true],zJe 57 56 3,ol 58 57 3,[o2 59 (.load 0 [] 1 (.t 58) 1 true) 3 true],nM 60 3 3 2 3,kT 62 59 61 3,[o2 63 (.load 0 [(1,1)] 0 (.t 62) 1 false) 3 true],nM 64 3 3 3 3,xu 66 63 65 3,jW 55 66 67 51])) (zC 51 (zS [tY 68 3 4,zJd 69 2 70 10 70,af 4 70] .ret) (zS [aW 72 3 1,fV 74 73 4,af 71 74] (zC 71 (zS [bQ 75,bQ 77,JD 1000000002 3 4 76 76,zJb 1000000002 77 78 78,zHb 1000000002 78 79 79,zIz 1000000002 0 1 79 1 80 80,xz 1000000002 81 81 3 2,zHa 1000000002 80 82 83 83,zHc 1000000002 0 1 1 83 84 84,aW 85 3 2,zIo 86 87,[⟨false,[],[],.call 3 136 [.t 0,.t 76,.t 84,.t 87] (.mp 0),[88,0,87,10,83,80],(some 88),none⟩],af 4 88] .ret) .skip)))))))))) (zS [tY 89 3 4,[⟨false,[],[],.call 2 137 [.t 0,.t 90] (.mp 0),[91,0,10],(some 91),none⟩],af 4 91] .ret)))
def MM:aJ:=⟨[.mp kN,.rd true [.d,.d,.d,.d]],(.one false [.d])⟩
def Ak:aH:=aA [(134,Mr),(73,oF),(135,Fg),(74,Rj),(136,oP),(137,ML)]
def Al (n:Nat):dE × kr->Option ((Int) × Int × List Int × List aF × List (List Int) × List Int × Int × Int × Int × Int × Int × Int × Int × List aF × Int × List lU):=aD n Ak Aj [bu,dD] [.i .i64] bu [4] (.mp 0)
def Am:=Al BIG
def MN:TSp:=⟨MM,[bu,dD],[.i .i64],bu,Ou.j (.mp 0),Am⟩
theorem abq:aM PG Ak 50 MM (Aj.ht 92) (.mp 0)=some (Aj.wc Ak,[4]):=by kernel_rfl
theorem YP:MN.Ok PG 50:=aN (aa Ug (aa sQ (aa Ui (aa Yg (aa uR (aa YO (ak PG))))))) abq (by kernel_rfl)
theorem abr (n) (a0) (a1):Al n (a0,a1) = ((BM (a0,a1)).bind fun r0=> bif r0.1 then (eB (a0,a1,(3:Int))).bind fun r1=> some (Sum.inr (r1.1,r1.2)) else bif decide (a1.2.1=(3:Int)) then (uQ (a0.1,a0.2.2.2.1,a0.2.2.1)).bind fun r2=> bnd r2.1.1.length a1.2.2.1 fun n3=> r2.1.1[n3]?.bind fun y4=> bnd r2.1.1.length a1.2.2.2 fun n5=> r2.1.1[n5]?.bind fun y6=> (Io (decide (y4=y6))).bind fun r7=> (eB (a0,a1,r7.1)).bind fun r8=> some (Sum.inr (r8.1,r8.2)) else (bif decide (a1.2.1=(4:Int)) then bnd a0.2.1.length a1.2.2.1 fun n9=> a0.2.1[n9]?.bind fun y10=> some (decide (y10=a1.2.2.2)) else some false:Option (Bool)).bind fun x11=> bif x11 then (eB (a0,a1,(2:Int))).bind fun r12=> some (Sum.inr (r12.1,r12.2)) else bif decide (a1.2.1=(4:Int)) then bnd a0.2.1.length a1.2.2.1 fun n13=> a0.2.1[n13]?.bind fun y14=> (iP (a0,a1,y14,((0:Int),(3:Int),[],a1.2.2.1))).bind fun r15=> some (Sum.inr (r15.1,r15.2)) else some (Sum.inl a0):Option ((dE) ⊕ Zt1)).bind fun y=>match y with | .inl x16=> (Ai (x16,a1)).bind fun r17=> some (r17.1,r17.2) | .inr x16=> some (x16.1,x16.2):=by kernel_rfl
def V5:TC:=
 (zS [bM 2 0,bM 3 1,rC 4 1000000005,bC 5] (zS [bS 8 2 15,dH 9 47 8,rC 6 1000000007,ek 6 9 6 9] (zQ (.seq (.join [⟨36,[.b],false⟩] 137438952448 none (zR [bS 10 2 15,dH 11 12 10,jg 12 11,gJ 14 3 3 0 3,Kq 48 15 100000 16 16 3,nO 17 16 3 13,gJ 20 9 2 14 9,gJ 22 9 3 0 9,yX 49 21 23 24 24 9,zIm 25 24 0 9,Bl 19 25 26,wu 28 2 15 17,EZ 13 28 29 29 17,Bl 27 29 30,Tf 32 21 2 14,zIm 35 34 80 21,mK 31 35 36])) (zC 36 (zS [kU 37 6 15 4 4 6,bC 5] .ret) .skip)) (zS [bS 38 3 4,zIp 50 6 38 39 6 39,af 7 39] (zS [gI 40 6 15,af 41 7,Bg 40 4 40 4 40 40 6,af 5 41] .ret)))))
def ae3:aJ:=⟨[.rd true kN,.rd true [.d,.d,.d,.d]],(.tup [(true,15),(false,1)] Ct0)⟩
def V6:aH:=aA [(47,DN),(12,BN),(48,j_),(49,wG),(13,N_),(50,MN)]
def V7 (n:Nat):dE × kr->Option (Zt2 × Unit):=aD n V6 V5 [bu,dD] Xu [] [4,5] .no
def yB:=V7 BIG
def ae4:TSp:=⟨ae3,[bu,dD],Xu,[],Ou.j .no,yB⟩
theorem anZ:aM PG V6 10 ae3 (V5.ht 42) .no=some (V5.wc V6,[4,5]):=by kernel_rfl
theorem alT:ae4.Ok PG 10:=aN (aa LX (aa Ik (aa iU (aa xZ (aa Q8 (aa YP (ak PG))))))) anZ (by kernel_rfl)
theorem an0 (n) (a0) (a1):V7 n (a0,a1) = (vG a0).bind fun r0=> ((kX a0).bind fun r1=> bif !r1.1 then some true else (dZ (a1.1,(1:Int),(100000:Int))).bind fun r2=> bif !r2.1 then some true else (qF (a0.2.2.2.2.2.2.2.2.2.2.2.2.2.2,a1.1)).bind fun r3=> bif decide ((0:Int)<=r3.1) then some true else (qG a0).bind fun r4=> bif r4.1 then some true else some (decide ((80:Int)<=(a0.2.2.2.2.2.2.2.2.2.2.2.2.2.2.length:Int))):Option (Bool)).bind fun x5=> bif x5 then some ((r0.1.1,r0.1.2.1,r0.1.2.2.1,r0.1.2.2.2.1,r0.1.2.2.2.2.1,r0.1.2.2.2.2.2.1,r0.1.2.2.2.2.2.2.1,r0.1.2.2.2.2.2.2.2.1,r0.1.2.2.2.2.2.2.2.2.1,r0.1.2.2.2.2.2.2.2.2.2.1,r0.1.2.2.2.2.2.2.2.2.2.2.1,r0.1.2.2.2.2.2.2.2.2.2.2.2.1,r0.1.2.2.2.2.2.2.2.2.2.2.2.2.1,r0.1.2.2.2.2.2.2.2.2.2.2.2.2.2.1,r0.1.2.2.2.2.2.2.2.2.2.2.2.2.2.2,(0:Int)),()) else (Am (r0.1,a1)).bind fun r6=> some ((r6.2.1,r6.2.2.1,r6.2.2.2.1,r6.2.2.2.2.1,r6.2.2.2.2.2.1,r6.2.2.2.2.2.2.1,r6.2.2.2.2.2.2.2.1,r6.2.2.2.2.2.2.2.2.1,r6.2.2.2.2.2.2.2.2.2.1,r6.2.2.2.2.2.2.2.2.2.2.1,r6.2.2.2.2.2.2.2.2.2.2.2.1,r6.2.2.2.2.2.2.2.2.2.2.2.2.1,r6.2.2.2.2.2.2.2.2.2.2.2.2.2.1,r6.2.2.2.2.2.2.2.2.2.2.2.2.2.2.1,r6.2.2.2.2.2.2.2.2.2.2.2.2.2.2.2,r6.1),()):=by kernel_rfl
def Iu:TC:=
 (zS [bM 1 0,Bh 2 1000000003] (zS [eZ 6 1 0 6,zDh 8 7,Bh 3 1000000004,ek 3 8 3 8] (zQ (.join [⟨3,eH,false⟩] 134217256 none (zS [eZ 9 1 1 9,jh 11 10] (.block 0 (.loop [⟨3,eH,false⟩,⟨12,[.i .i64],false⟩] 134213672 (zS [d_ 13 12 11] (zQ (zC 13 .skip (.exit 0)) (zQ (.block 1 (zS [jV 14 10 12 4 4,OE 5 1000000006,cZ 5 5 15] (zR [mO 16 3 1,ky 18 5 0 5 1,JB 22 19 21,Xx 23 22,Kr 17 17 23 24 17 17 3 24,bO 25,rD 3 24 17 3 1 25 24]))) (zR [kQ 26 12])))))))) (zS [kU 27 3 2 2 2 3] .ret))))
def Uk:aJ:=⟨[.rd true qx],(.one true wN)⟩
def Iw:aH:=aA []
def Iy (n:Nat):bK->Option (jB × Unit):=aD n Iw Iu [bz] eH [] [2] .no
def jc:=Iy BIG
def sV:TSp:=⟨Uk,[bz],eH,[],Ou.j .no,jc⟩
theorem ahk:aM PG Iw 150 Uk (Iu.ht 28) .no=some (Iu.wc Iw,[2]):=by kernel_rfl
theorem vK:sV.Ok PG 150:=aN (ak PG) ahk (by kernel_rfl)
theorem ahl (n) (a0):Iy n a0 = (aI n (X:=jB × Int) (B:=jB) (fun self1 x0=> bif decide (x0.2<(a0.2.length:Int)) then bnd a0.2.length x0.2 fun n2=> a0.2[n2]?.bind fun y3=> bif decide (x0.1.2.length+([(y3.1,y3.2.1)]).length<=4294967296) then self1 ((x0.1.1,x0.1.2++([(y3.1,y3.2.1)])),IntKind.wrap .i64 (x0.2+(1:Int))) else none else some x0.1) ((a0.1,[]),(0:Int)):Option (jB)).bind fun x4=> some (x4,()):=by kernel_rfl
def Iz:TC:=
 (zS [iH 1 0] (zQ (.join [⟨2,[.b],false⟩] 8188 none (zR [eZ 3 1 0 3,lD 5 48 4 12,af 6 5,jA 7 3,l6 8 1 0 7 3,jA 9 3,l6 10 1 1 9 3,l7 144 8 10 11 11 3,jW 6 11 12 2])) .ret))
def Ul:aJ:=⟨[.rd true wN],(.one false [.d])⟩
def IA:aH:=aA [(48,j_),(144,sP)]
def IB (n:Nat):jB->Option ((Bool) × Unit):=aD n IA Iz [eH] [.b] [] [2] .no
def yf:=IB BIG
def IC:TSp:=⟨Ul,[eH],[.b],[],Ou.j .no,yf⟩
theorem ahm:aM PG IA 193 Ul (Iz.ht 13) .no=some (Iz.wc IA,[2]):=by kernel_rfl
theorem Px:IC.Ok PG 193:=aN (aa iU (aa vI (ak PG))) ahm (by kernel_rfl)
theorem ahn (n) (a0):IB n a0 = ((dZ (a0.1,(1:Int),(12:Int))).bind fun r0=> bif r0.1 then (nG (a0.1,a0.2)).bind fun r1=> some r1.1 else some false:Option (Bool)).bind fun x2=> some (x2,()):=by kernel_rfl
def Ao:TC:=
 (zS [bM 1 0,wm 2] (zS [wm 3] (zQ (.join [⟨3,[.sl [.i .i64,.i .i64]],false⟩] 16777192 none (zS [eZ 6 1 1 6,jh 8 7] (.block 0 (.loop [⟨3,[.sl [.i .i64,.i .i64]],false⟩,⟨9,[.i .i64],false⟩] 16776744 (zS [d_ 10 9 8] (zQ (zC 10 .skip (.exit 0)) (zQ (.join [⟨3,[.sl [.i .i64,.i .i64]],false⟩] 8386600 none (.block 1 (zS [jy 11 7 9,JC 12 7 4 11 4,OE 5 1000000006,cZ 5 5 12] (zS [aW 13 5 3] (zC 14 (zR [bH 3 15 3,ky 16 5 0 5 1,JB 20 17 19,E5 21 20 15 15 3]) .skip))))) (zR [Be 23 9,af 9 23])))))))) (zS [om 3 24 3 2] .ret))))
def MO:aJ:=⟨[.rd true qx],(.one false fJ)⟩
def Ap:aH:=aA []
def Aq (n:Nat):bK->Option ((List aF) × Unit):=aD n Ap Ao [bz] [.sl [.i .i64,.i .i64]] [] [2] .no
def Ar:=Aq BIG
def MP:TSp:=⟨MO,[bz],[.sl [.i .i64,.i .i64]],[],Ou.j .no,Ar⟩
theorem abt:aM PG Ap 195 MO (Ao.ht 25) .no=some (Ao.wc Ap,[2]):=by kernel_rfl
theorem YQ:MP.Ok PG 195:=aN (ak PG) abt (by kernel_rfl)
theorem abu (n) (a0):Aq n a0 = (aI n (X:=(List aF) × Int) (B:=(List aF)) (fun self1 x0=> bif decide (x0.2<(a0.2.length:Int)) then (bnd a0.2.length x0.2 fun n2=> a0.2[n2]?.bind fun y3=> bif y3.2.2.2 then bif decide (x0.1.length+([(y3.1,y3.2.1)]).length<=4294967296) then some (x0.1++([(y3.1,y3.2.1)])) else none else some x0.1:Option ((List aF))).bind fun x4=> self1 (x4,IntKind.wrap .i64 (x0.2+(1:Int))) else some x0.1) ([],(0:Int)):Option ((List aF))).bind fun x5=> some (x5,()):=by kernel_rfl
def Rk:TC:=
 (zS [a_ 4] (zS [af 8 0,dH 9 177 8,bH 9 5 9] (zQ (.join [] 16776368 (some [⟨4,[.b],false⟩]) (zS [af 10 1,jh 11 10] (.block 0 (.loop [⟨5,[.sl [.i .i64]],false⟩,⟨12,[.i .i64],false⟩] 16773296 (zS [d_ 13 12 11] (zQ (zC 13 .skip (.exit 0)) (zQ (.block 1 (zS [jV 14 10 12 2 2,l8 7 1000000008,cZ 7 7 15] (zS [cO 16 5,ky 17 7 0 7 1,zJa 16 18 20 5 16 21 5 16 21,gX 22 21] (zC 22 (zS [gu 4] .ret) .skip)))) (zR [kQ 23 12])))))))) (zS [a_ 4] .ret))))
def abv:aJ:=⟨[.rd false [.d],.rd false fJ],(.one false [.d])⟩
def Rl:aH:=aA [(177,Il),(188,Im)]
def Rm (n:Nat):Int × (List aF)->Option ((Bool) × Unit):=aD n Rl Rk [[.i .i64],[.sl [.i .i64,.i .i64]]] [.b] [] [4] .no
def Rn:=Rm BIG
def abw:TSp:=⟨abv,[[.i .i64],[.sl [.i .i64,.i .i64]]],[.b],[],Ou.j .no,Rn⟩
theorem alU:aM PG Rl 194 abv (Rk.ht 24) .no=some (Rk.wc Rl,[4]):=by kernel_rfl
theorem aj3:abw.Ok PG 194:=aN (aa ME (aa MF (ak PG))) alU (by kernel_rfl)
theorem alV (n) (a0) (a1):Rm n (a0,a1) = (Ad a0).bind fun r0=> (aI n (X:=(List Int) × Int) (B:=(Unit) ⊕ (Bool)) (fun self2 x1=> bif decide (x1.2<(a1.length:Int)) then bnd a1.length x1.2 fun n3=> a1[n3]?.bind fun y4=> (uM (x1.1,y4.1,y4.2)).bind fun r5=> bif !r5.1 then some (Sum.inr true) else self2 (r5.2,IntKind.wrap .i64 (x1.2+(1:Int))) else some (Sum.inl ())) (r0.1,(0:Int)):Option ((Unit) ⊕ (Bool))).bind fun y=>match y with | .inl x6=> some (false,()) | .inr x6=> some (x6,()):=by kernel_rfl
def MQ:TC:=
 (zS [bM 2 0,wm 4] (zS [wm 5] (zQ (.join [⟨5,[.sl [.i .i64,.i .i64]],false⟩] 4294967200 none (zS [eZ 8 2 1 8,jh 10 9] (.block 0 (.loop [⟨5,[.sl [.i .i64,.i .i64]],false⟩,⟨11,[.i .i64],false⟩] 4294965408 (zS [d_ 12 11 10] (zQ (zC 12 .skip (.exit 0)) (zQ (.join [⟨5,[.sl [.i .i64,.i .i64]],false⟩] 2147475616 none (.block 1 (zS [jy 13 9 11,JC 14 9 4 13 4,OE 7 1000000008,cZ 7 7 14] (zQ (.join [⟨22,[.b],false⟩] 8355840 none (zR [aW 15 7 3,ow 17 16 2 7 2 2,cK 20 1 2,zDD 21 19 20 2,lC 17 21 22])) (zC 22 (zR [bH 5 23 5,ky 24 7 0 7 1,JB 28 25 27,E5 29 28 23 23 5]) .skip))))) (zR [kQ 31 11])))))))) (zS [om 5 32 5 4] .ret))))
def Yj:aJ:=⟨[.rd true qx,.rd false [.d]],(.one false fJ)⟩
def MR:aH:=aA []
def MS (n:Nat):bK × Int->Option ((List aF) × Unit):=aD n MR MQ [bz,[.i .i64]] [.sl [.i .i64,.i .i64]] [] [4] .no
def BQ:=MS BIG
def MU:TSp:=⟨Yj,[bz,[.i .i64]],[.sl [.i .i64,.i .i64]],[],Ou.j .no,BQ⟩
theorem aj4:aM PG MR 199 Yj (MQ.ht 33) .no=some (MQ.wc MR,[4]):=by kernel_rfl
theorem Um:MU.Ok PG 199:=aN (ak PG) aj4 (by kernel_rfl)
theorem aj5 (n) (a0) (a1):MS n (a0,a1) = (aI n (X:=(List aF) × Int) (B:=(List aF)) (fun self1 x0=> bif decide (x0.2<(a0.2.length:Int)) then (bnd a0.2.length x0.2 fun n2=> a0.2[n2]?.bind fun y3=> (bif y3.2.2.2 then some (decide (a1<=y3.2.2.1)) else some false:Option (Bool)).bind fun x4=> bif x4 then bif decide (x0.1.length+([(y3.1,y3.2.1)]).length<=4294967296) then some (x0.1++([(y3.1,y3.2.1)])) else none else some x0.1:Option ((List aF))).bind fun x5=> self1 (x5,IntKind.wrap .i64 (x0.2+(1:Int))) else some x0.1) ([],(0:Int)):Option ((List aF))).bind fun x6=> some (x6,()):=by kernel_rfl
def D9:TC:=
 (zS [bM 2 0,tT 4] (zS [eZ 8 2 0 8,dH 10 177 9,bH 10 5 10] (zQ (.join [⟨5,[.sl [.i .i64]],false⟩] 67106976 none (zS [bS 11 2 2,af 12 1,fG 13 199 11 12,jh 14 13] (.block 0 (.loop [⟨5,[.sl [.i .i64]],false⟩,⟨15,[.i .i64],false⟩] 67076256 (zS [d_ 16 15 14] (zQ (zC 16 .skip (.exit 0)) (zQ (.block 1 (zS [jV 17 13 15 2 2,l8 7 1000000008,cZ 7 7 18] (zR [cO 19 5,ky 20 7 0 7 1,zJa 19 21 23 5 19 24 5 19 24]))) (zR [kQ 25 15])))))))) (zS [om 5 26 5 4] .ret))))
def Py:aJ:=⟨[.rd true qx,.rd false [.d]],(.one false dY)⟩
def D_:aH:=aA [(177,Il),(199,MU),(188,Im)]
def Ea (n:Nat):bK × Int->Option ((List Int) × Unit):=aD n D_ D9 [bz,[.i .i64]] [.sl [.i .i64]] [] [4] .no
def ku:=Ea BIG
def lM:TSp:=⟨Py,[bz,[.i .i64]],[.sl [.i .i64]],[],Ou.j .no,ku⟩
theorem adm:aM PG D_ 154 Py (D9.ht 27) .no=some (D9.wc D_,[4]):=by kernel_rfl
theorem mV:lM.Ok PG 154:=aN (aa ME (aa Um (aa MF (ak PG)))) adm (by kernel_rfl)
theorem adn (n) (a0) (a1):Ea n (a0,a1) = (Ad a0.1).bind fun r0=> ((BQ (a0,a1)).bind fun r1=> aI n (X:=(List Int) × Int) (B:=(List Int)) (fun self3 x2=> bif decide (x2.2<(r1.1.length:Int)) then bnd r1.1.length x2.2 fun n4=> r1.1[n4]?.bind fun y5=> (uM (x2.1,y5.1,y5.2)).bind fun r6=> self3 (r6.2,IntKind.wrap .i64 (x2.2+(1:Int))) else some x2.1) (r0.1,(0:Int)):Option ((List Int))).bind fun x7=> some (x7,()):=by kernel_rfl
def Ro:TC:=
 (zS [bC 4] (zS [bC 5] (zQ (.join [⟨5,[.i .i64],false⟩] 1048480 none (zS [af 8 0,jh 9 8] (.block 0 (.loop [⟨5,[.i .i64],false⟩,⟨10,[.i .i64],false⟩] 1047712 (zS [d_ 11 10 9] (zQ (zC 11 .skip (.exit 0)) (zQ (.join [⟨5,[.i .i64],false⟩] 520352 none (.block 1 (zS [mM 12 8 10 8 1,af 7 13] (zS [di 14 7 1,kP 16 14 15] (zC 16 (zR [eF 17 5 5]) .skip))))) (zR [kQ 19 10])))))))) (zS [af 20 5,af 4 20] .ret))))
def abx:aJ:=⟨[.rd false dY,.rd false [.d]],(.one false [.d])⟩
def Rp:aH:=aA []
def Rq (n:Nat):List Int × Int->Option ((Int) × Unit):=aD n Rp Ro [[.sl [.i .i64]],[.i .i64]] [.i .i64] [] [4] .no
def Au:=Rq BIG
def Rs:TSp:=⟨abx,[[.sl [.i .i64]],[.i .i64]],[.i .i64],[],Ou.j .no,Au⟩
theorem alW:aM PG Rp 197 abx (Ro.ht 21) .no=some (Ro.wc Rp,[4]):=by kernel_rfl
theorem Yk:Rs.Ok PG 197:=aN (ak PG) alW (by kernel_rfl)
theorem alX (n) (a0) (a1):Rq n (a0,a1) = (aI n (X:=Int × Int) (B:=Int) (fun self1 x0=> bif decide (x0.2<(a0.length:Int)) then (bnd a0.length x0.2 fun n2=> a0[n2]?.bind fun y3=> bif decide (y3=a1) then some (IntKind.wrap .i64 (x0.1+(1:Int))) else some x0.1:Option (Int)).bind fun x4=> self1 (x4,IntKind.wrap .i64 (x0.2+(1:Int))) else some x0.1) ((0:Int),(0:Int)):Option (Int)).bind fun x5=> some (x5,()):=by kernel_rfl
def IE:TC:=
 (zS [bM 2 0,a_ 4] (zS [bS 8 2 2,af 9 1,fG 10 154 8 9,bH 10 5 10] (zQ (.join [] 4294965392 (some [⟨4,[.b],false⟩]) (zS [bS 11 2 2,af 12 1,fG 13 199 11 12,jh 14 13] (.block 0 (.loop [⟨15,[.i .i64],false⟩] 4294934672 (zS [d_ 16 15 14] (zQ (zC 16 .skip (.exit 0)) (zQ (.block 1 (zS [jV 17 13 15 2 2,l8 7 1000000008,cZ 7 7 18] (zS [cO 19 5,cO 20 5,af 28 1,aW 21 7 0,mM 23 20 22 5 1,fG 25 197 19 24,aW 26 2 0,[o1 29 (.data (.bin .shr) [.t 27,.t 28]),o1 30 (.data (.bin .gtr) [.t 25,.t 29])]] (zC 30 (zS [a_ 4] .ret) .skip)))) (zR [kQ 31 15])))))))) (zS [gu 4] .ret))))
def Un:aJ:=⟨[.rd true qx,.rd false [.d]],(.one false [.d])⟩
def IG:aH:=aA [(154,lM),(199,MU),(197,Rs)]
def II (n:Nat):bK × Int->Option ((Bool) × Unit):=aD n IG IE [bz,[.i .i64]] [.b] [] [4] .no
def IJ:=II BIG
def Uo:TSp:=⟨Un,[bz,[.i .i64]],[.b],[],Ou.j .no,IJ⟩
theorem aho:aM PG IG 196 Un (IE.ht 32) .no=some (IE.wc IG,[4]):=by kernel_rfl
theorem ado:Uo.Ok PG 196:=aN (aa mV (aa Um (aa Yk (ak PG)))) aho (by kernel_rfl)
theorem ahp (n) (a0) (a1):II n (a0,a1) = (ku (a0,a1)).bind fun r0=> ((BQ (a0,a1)).bind fun r1=> aI n (X:=Int) (B:=(Unit) ⊕ (Bool)) (fun self3 x2=> bif decide (x2<(r1.1.length:Int)) then bnd r1.1.length x2 fun n4=> r1.1[n4]?.bind fun y5=> bnd r0.1.length y5.1 fun n6=> r0.1[n6]?.bind fun y7=> (Au (r0.1,y7)).bind fun r8=> bif decide (a1<0) then none else bif decide ((Int.fdiv a0.1 (2 ^ (Nat.min (Int.toNat a1) (IntKind.bits .i64))))<r8.1) then some (Sum.inr false) else self3 (IntKind.wrap .i64 (x2+(1:Int))) else some (Sum.inl ())) (0:Int):Option ((Unit) ⊕ (Bool))).bind fun y=>match y with | .inl x9=> some (true,()) | .inr x9=> some (x9,()):=by kernel_rfl
def Rt:TC:=
 (zS [iH 1 0] (zQ (.seq (.join [⟨17,[.b],false⟩] 262016 none (zR [bS 7 1 2,dH 8 150 7,dH 9 193 8,jg 10 9,gJ 12 4 1 0 4,wu 14 1 2 4,EZ 195 14 15 15 4,yX 194 13 15 16 16 4,mK 11 16 17])) (zC 17 (zS [a_ 2] .ret) .skip)) (zQ (.join [] 1125899906580532 (some [⟨2,[.b],false⟩]) (zS [aW 18 1 1,jh 20 19] (.block 0 (.loop [⟨21,[.i .i64],false⟩] 1125899904745524 (zS [d_ 22 21 20] (zQ (zC 22 .skip (.exit 0)) (zQ (.join [] 562949945032756 (some [⟨2,[.b],false⟩]) (.block 1 (zS [jV 23 19 21 4 4,OE 4 1000000005,cZ 4 4 24] (zQ (zS [aW 25 4 2,[o3 27 48 [.t 26,kO 0,kO 4]],gX 28 27] (zC 28 (zS [a_ 2] .ret) .skip)) (zS [bS 29 1 2,aW 30 4 2,fG 32 154 29 31,bH 32 5 32] (zQ (.join [⟨48,[.b],false⟩] 562941363486720 none (zR [aW 33 4 3,jg 35 34,EY 5 37 37 3,nM 38 3 4 0 3,kT 40 37 39 3,tV 41 5 1 40 3,EY 5 42 42 3,nM 43 3 4 1 3,kT 45 42 44 3,tV 46 5 1 45 3,zEA 47 41 46 3,lC 36 47 48])) (zC 48 (zS [a_ 2] .ret) .skip))))))) (zR [kQ 49 21])))))))) (zQ (.join [] 287104476244869188 (some [⟨2,[.b],false⟩]) (zS [iq 6 1] (.block 2 (.loop [⟨6,[.i .i64],false⟩] 287104476244869188 (zQ (zS [af 50 6,zAy 51 50 4] (zC 51 .skip (.exit 2))) (zQ (.block 3 (zS [bS 54 1 2,af 55 6,fG 56 196 54 55,gX 57 56] (zC 57 (zS [a_ 2] .ret) .skip))) (zR [eF 52 6 6]))))))) (zS [gu 2] .ret)))))
def aby:aJ:=⟨[.rd true qx],(.one false [.d])⟩
def Ru:aH:=aA [(150,sV),(193,IC),(195,MP),(194,abw),(48,j_),(154,lM),(196,Uo)]
def Rv (n:Nat):bK->Option ((Bool) × Unit):=aD n Ru Rt [bz] [.b] [] [2] .no
def uW:=Rv BIG
def Av:TSp:=⟨aby,[bz],[.b],[],Ou.j .no,uW⟩
theorem alY:aM PG Ru 146 aby (Rt.ht 58) .no=some (Rt.wc Ru,[2]):=by kernel_rfl
theorem BR:Av.Ok PG 146:=aN (aa vK (aa Px (aa YQ (aa aj3 (aa iU (aa mV (aa ado (ak PG)))))))) alY (by kernel_rfl)
theorem alZ (n) (a0):Rv n a0 =
 ((jc a0).bind fun r0=>
  (yf r0.1).bind fun r1=>
  bif !r1.1 then
   some true
  else (Ar a0).bind fun r2=>
  (Rn (a0.1,r2.1)).bind fun r3=>
  some r3.1:Option (Bool)).bind fun x4=>
 bif x4 then
  some (false,())
 else (aI n (X:=Int) (B:=(Unit) ⊕ (Bool)) (fun self6 x5=>
  bif decide (x5<(a0.2.length:Int)) then
   (bnd a0.2.length x5 fun n7=>
    a0.2[n7]?.bind fun y8=>
    (dZ (y8.2.2.1,(0:Int),(4:Int))).bind fun r9=>
    bif !r9.1 then
     some (Sum.inr false)
    else (ku (a0,y8.2.2.1)).bind fun r10=>
    (bif !y8.2.2.2 then
     bnd r10.1.length y8.1 fun n11=>
     r10.1[n11]?.bind fun y12=>
     bnd r10.1.length y8.2.1 fun n13=>
     r10.1[n13]?.bind fun y14=>
     some (!decide (y12=y14))
     else some false:Option (Bool)).bind fun x15=>
    bif x15 then
     some (Sum.inr false)
    else some (Sum.inl ()):Option ((Unit) ⊕ (Bool))).bind fun y=>match y with
   | .inl x16=>
    self6 (IntKind.wrap .i64 (x5+(1:Int)))
   | .inr x16=>
    some (Sum.inr x16)
  else some (Sum.inl ())) (0:Int):Option ((Unit) ⊕ (Bool))).bind fun y=>match y with
 | .inl x17=>
  (aI n (X:=Int) (B:=(Unit) ⊕ (Bool)) (fun self19 x18=>
   bif decide (x18<=(4:Int)) then
    (IJ (a0,x18)).bind fun r20=>
    bif !r20.1 then
     some (Sum.inr false)
    else self19 (IntKind.wrap .i64 (x18+(1:Int)))
   else some (Sum.inl ())) (1:Int):Option ((Unit) ⊕ (Bool))).bind fun y=>match y with
  | .inl x21=>
   some (true,())
  | .inr x21=>
   some (x21,())
 | .inr x17=>
  some (x17,()):=by kernel_rfl
def Eb:TC:=
 (zS [iH 1 0] (zQ (.join [⟨2,[.b],false⟩] 8388604 none (zR [eZ 3 1 0 3,fV 5 4 0,af 6 5,jA 7 3,l6 8 1 1 7 3,zDz 9 8 3,iT 6 9 10,nM 12 8 1 2 8,zEr 14 13 8,OI 15 14 8,iT 11 15 16,gU 18 14 1 3,zEr 20 19 14,OI 21 20 14,jW 17 21 22 2])) .ret))
def Pz:aJ:=⟨[.rd true JA],(.one false [.d])⟩
def Ec:aH:=aA []
def Ee (n:Nat):ko->Option ((Bool) × Unit):=aD n Ec Eb [eX] [.b] [] [2] .no
def Ef:=Ee BIG
def PD:TSp:=⟨Pz,[eX],[.b],[],Ou.j .no,Ef⟩
theorem adp:aM PG Ec 83 Pz (Eb.ht 23) .no=some (Eb.wc Ec,[2]):=by kernel_rfl
theorem abz:PD.Ok PG 83:=aN (ak PG) adp (by kernel_rfl)
theorem adq (n) (a0):Ee n a0 = (bif decide (a0.1=(0:Int)) then bif !a0.2.1 then bif decide ((a0.2.2.1.length:Int)=(0:Int)) then some (decide ((a0.2.2.2.length:Int)=(0:Int))) else some false else some false else some false:Option (Bool)).bind fun x0=> some (x0,()):=by kernel_rfl
def Eg:TC:=
 (zS [iH 3 1] (zQ (.join [⟨4,[.b],false⟩] 16777200 none (zR [af 5 0,lD 6 48 5 12,af 7 6,jA 8 2,l6 9 3 0 8 2,zGd 48 9 10 10 2,iT 7 10 11,cK 13 0 7,nM 14 7 3 2 7,l7 144 13 15 16 16 7,iT 12 16 17,cK 19 0 13,gU 20 13 3 3,l7 59 19 21 22 22 13,jW 18 22 23 4])) .ret))
def PE:aJ:=⟨[.rd false [.d],.rd true JA],(.one false [.d])⟩
def Eh:aH:=aA [(48,j_),(144,sP),(59,DV)]
def Ei (n:Nat):Int × ko->Option ((Bool) × Unit):=aD n Eh Eg [[.i .i64],eX] [.b] [] [4] .no
def vL:=Ei BIG
def Ej:TSp:=⟨PE,[[.i .i64],eX],[.b],[],Ou.j .no,vL⟩
theorem adr:aM PG Eh 71 PE (Eg.ht 24) .no=some (Eg.wc Eh,[4]):=by kernel_rfl
theorem MV:Ej.Ok PG 71:=aN (aa iU (aa vI (aa LY (ak PG)))) adr (by kernel_rfl)
theorem ads (n) (a0) (a1):Ei n (a0,a1) = ((dZ (a0,(1:Int),(12:Int))).bind fun r0=> bif r0.1 then (dZ (a1.1,(1:Int),(100000:Int))).bind fun r1=> bif r1.1 then (nG (a0,a1.2.2.1)).bind fun r2=> bif r2.1 then (vH (a0,a1.2.2.2)).bind fun r3=> some r3.1 else some false else some false else some false:Option (Bool)).bind fun x4=> some (x4,()):=by kernel_rfl
def Aw:TC:=
 (zS [bM 1 0,tT 2] (zQ (zS [bS 3 1 2,dH 4 146 3,gX 5 4] (zC 5 (zS [tT 2] .ret) .skip)) (zS [bS 6 1 2,zGe 7 154 6,bH 7 2 7] .ret)))
def MW:aJ:=⟨[.rd true qx],(.one false dY)⟩
def Ay:aH:=aA [(146,Av),(154,lM)]
def Az (n:Nat):bK->Option ((List Int) × Unit):=aD n Ay Aw [bz] [.sl [.i .i64]] [] [2] .no
def mW:=Az BIG
def AA:TSp:=⟨MW,[bz],[.sl [.i .i64]],[],Ou.j .no,mW⟩
theorem abA:aM PG Ay 70 MW (Aw.ht 8) .no=some (Aw.wc Ay,[2]):=by kernel_rfl
theorem JM:AA.Ok PG 70:=aN (aa BR (aa mV (ak PG))) abA (by kernel_rfl)
theorem abB (n) (a0):Az n a0 = (uW a0).bind fun r0=> bif !r0.1 then some ([],()) else (ku (a0,(0:Int))).bind fun r1=> some (r1.1,()):=by kernel_rfl
def El:TC:=
 (zS [a_ 4] (zQ (zS [af 6 0,dW 7 6,af 8 1,dW 9 8,xw 10 7 9] (zC 10 (zS [a_ 4] .ret) .skip)) (zQ (.join [] 67106864 (some [⟨4,[.b],false⟩]) (zS [af 11 0,jh 12 11] (.block 0 (.loop [⟨13,[.i .i64],false⟩] 67100720 (zS [d_ 14 13 12] (zQ (zC 14 .skip (.exit 0)) (zQ (.block 1 (zS [af 15 13,af 5 15] (zS [di 16 0 5,di 20 1 5,kv 18 16 17 1,kv 22 20 21 1,xw 24 19 23] (zC 24 (zS [a_ 4] .ret) .skip)))) (zR [kQ 25 13])))))))) (zS [gu 4] .ret))))
def PH:aJ:=⟨[.rd false dY,.rd false dY],(.one false [.d])⟩
def Em:aH:=aA []
def En (n:Nat):List Int × List (Int)->Option ((Bool) × Unit):=aD n Em El [[.sl [.i .i64]],[.sl [.i .i64]]] [.b] [] [4] .no
def Eo:=En BIG
def PI:TSp:=⟨PH,[[.sl [.i .i64]],[.sl [.i .i64]]],[.b],[],Ou.j .no,Eo⟩
theorem adt:aM PG Em 147 PH (El.ht 26) .no=some (El.wc Em,[4]):=by kernel_rfl
theorem abC:PI.Ok PG 147:=aN (ak PG) adt (by kernel_rfl)
theorem adu (n) (a0) (a1):En n (a0,a1) = bif !decide ((a0.length:Int)=(a1.length:Int)) then some (false,()) else (aI n (X:=Int) (B:=(Unit) ⊕ (Bool)) (fun self1 x0=> bif decide (x0<(a0.length:Int)) then bnd a0.length x0 fun n2=> a0[n2]?.bind fun y3=> bnd a1.length x0 fun n4=> a1[n4]?.bind fun y5=> bif !decide (y3=y5) then some (Sum.inr false) else self1 (IntKind.wrap .i64 (x0+(1:Int))) else some (Sum.inl ())) (0:Int):Option ((Unit) ⊕ (Bool))).bind fun y=>match y with | .inl x6=> some (true,()) | .inr x6=> some (x6,()):=by kernel_rfl
def IK:TC:=
 (zS [iH 1 0] (zQ (.seq (.join [⟨12,[.b],false⟩] 8184 none (zR [eZ 3 1 0 3,lD 5 48 4 3,gX 6 5,af 7 6,qz 8 4,zGf 9 1 1 8 2 4,EZ 146 9 10 10 4,nL 11 10 4 7])) (zC 12 (zS [a_ 2] .ret) .skip)) (zQ (.join [⟨2,[.b],false⟩] 8589926404 none (zR [bO 13,nK 14 1 3 13 4,dH 15 83 14,af 16 15,qz 17 3,rE 18 17 3,Bi 19 1 1 18 3,qz 20 3,zGf 21 1 3 20 4 3,yX 71 19 21 22 22 3,dw 23 22 3,jA 24 10,ol 25 24 10,l6 26 1 6 25 10,jA 27 10,zGk 28 1 1 27 2 10,zEw 70 28 29 29 10,l7 147 26 29 30 30 10,xB 23 30 31 31 3 16,af 2 32])) .ret)))
def Uq:aJ:=⟨[.rd true EU],(.one false [.d])⟩
def IL:aH:=aA [(48,j_),(146,Av),(83,PD),(71,Ej),(70,AA),(147,PI)]
def IM (n:Nat):l_->Option ((Bool) × Unit):=aD n IL IK [fQ] [.b] [] [2] .no
def yg:=IM BIG
def Ur:TSp:=⟨Uq,[fQ],[.b],[],Ou.j .no,yg⟩
theorem ahq:aM PG IL 63 Uq (IK.ht 33) .no=some (IK.wc IL,[2]):=by kernel_rfl
theorem adv:Ur.Ok PG 63:=aN (aa iU (aa BR (aa abz (aa MV (aa JM (aa abC (ak PG))))))) ahq (by kernel_rfl)
theorem ahr (n) (a0):IM n a0 = ((dZ (a0.1,(1:Int),(3:Int))).bind fun r0=> bif !r0.1 then some true else (uW (a0.2.1,a0.2.2.1)).bind fun r1=> some !r1.1:Option (Bool)).bind fun x2=> bif x2 then some (false,()) else ((Ef a0.2.2.2).bind fun r3=> bif r3.1 then some true else (vL (a0.2.1,a0.2.2.2)).bind fun r4=> bif r4.1 then (mW (a0.2.1,a0.2.2.1)).bind fun r5=> (Eo (a0.2.2.2.2.2.2,r5.1)).bind fun r6=> some r6.1 else some false:Option (Bool)).bind fun x7=> some (x7,()):=by kernel_rfl
def IP:TC:=
 (zS [bM 1 0,EW 2 1000000003] (zS [eZ 3 1 0 3,eZ 5 1 1 5,zIB 7 6,[o5 (.build bz [(0,.t 4),(1,.t 7)]) 8 7],ek 2 8 2 8] .ret))
def Us:aJ:=⟨[.rd true qx],(.one true qx)⟩
def IQ:aH:=aA []
def yh (n:Nat):bK->Option (bK × Unit):=aD n IQ IP [bz] bz [] [2] .no
def sW:=yh BIG
def IR:TSp:=⟨Us,[bz],bz,[],Ou.j .no,sW⟩
theorem ahs:aM PG IQ 148 Us (IP.ht 9) .no=some (IP.wc IQ,[2]):=by kernel_rfl
theorem PL:IR.Ok PG 148:=aN (ak PG) ahs (by kernel_rfl)
theorem Ut (n) (a0):yh n a0 = bif decide (a0.2.length<=4294967296) then some (a0,()) else none:=by kernel_rfl
def wY:TC:=
 (zS [bM 1 0,zGn 2 1000000003] (zS [eZ 3 1 2 3,dH 5 132 4,eZ 6 1 3 6,dH 8 72 7,bO 9,Bj 5 2 9 5,bO 10,Bj 8 3 10 8] (zS [kU 11 1 4 2 2 1] .ret)))
def JN:aJ:=⟨[.rd true JA],(.one true JA)⟩
def wZ:aH:=aA [(132,sO),(72,vE)]
def w9 (n:Nat):ko->Option (ko × Unit):=aD n wZ wY [eX] eX [] [2] .no
def jI:=w9 BIG
def w_:TSp:=⟨JN,[eX],eX,[],Ou.j .no,jI⟩
theorem YR:aM PG wZ 66 JN (wY.ht 12) .no=some (wY.wc wZ,[2]):=by kernel_rfl
theorem Fj:w_.Ok PG 66:=aN (aa wV (aa z_ (ak PG))) YR (by kernel_rfl)
theorem YS (n) (a0):w9 n a0 = (mU a0.2.2.1).bind fun r0=> (ji a0.2.2.2).bind fun r1=> some ((a0.1,a0.2.1,r0.1,r1.1),()):=by kernel_rfl
def AB:TC:=
 (zS [bM 1 0,zBE 2 1000000003] (zS [eZ 3 1 0 3,bO 5,nK 6 1 1 5 2,dH 7 148 6,bO 8,nK 9 1 3 8 4,dH 10 66 9,[⟨false,[],[],.det 3 (.build fQ [(0,.t 4),(1,.t 7),(3,.t 10)]),[11,7,10],(some 11),none⟩],ek 2 11 2 11] .ret))
def MX:aJ:=⟨[.rd true EU],(.one true EU)⟩
def AC:aH:=aA [(148,IR),(66,w_)]
def AJ (n:Nat):l_->Option (l_ × Unit):=aD n AC AB [fQ] fQ [] [2] .no
def AL:=AJ BIG
def MZ:TSp:=⟨MX,[fQ],fQ,[],Ou.j .no,AL⟩
theorem abD:aM PG AC 65 MX (AB.ht 12) .no=some (AB.wc AC,[2]):=by kernel_rfl
theorem YT:MZ.Ok PG 65:=aN (aa PL (aa Fj (ak PG))) abD (by kernel_rfl)
theorem abE (n) (a0):AJ n a0 = (sW (a0.2.1,a0.2.2.1)).bind fun r0=> (jI a0.2.2.2).bind fun r1=> some ((a0.1,r0.1.1,r0.1.2,r1.1),()):=by kernel_rfl
def IU:TC:=
 (zS [bM 2 0,iH 3 1] (zS [eZ 5 2 1 5,bS 7 3 2,fG 8 155 6 7,af 4 8] .ret))
def Uu:aJ:=⟨[.rd true wN,.rd true [.d,.d]],(.one false [.d])⟩
def IV:aH:=aA [(155,yc)]
def IW (n:Nat):jB × aF->Option ((Bool) × Unit):=aD n IV IU [eH,[.i .i64,.i .i64]] [.b] [] [4] .no
def yj:=IW BIG
def IY:TSp:=⟨Uu,[eH,[.i .i64,.i .i64]],[.b],[],Ou.j .no,yj⟩
theorem aht:aM PG IV 149 Uu (IU.ht 9) .no=some (IU.wc IV,[4]):=by kernel_rfl
theorem PN:IY.Ok PG 149:=aN (aa D5 (ak PG)) aht (by kernel_rfl)
theorem ahu (n) (a0) (a1):IW n (a0,a1) = (sU (a0.2,a1)).bind fun r0=> some (r0.1,()):=by kernel_rfl
def Ep:TC:=
 (zS [bM 4 1,l8 6 1000000007,a_ 7] (zS [bQ 15,qy 16 15,XD 17 0 0 16 2,af 18 2,fG 19 154 17 18,bH 19 8 19] (zS [cO 20 8,aW 21 4 0,mM 23 20 22 8 1,af 9 24] (zQ (.join [⟨9,[.i .i64],false⟩] 35184338534912 none (zS [cO 25 8,cO 26 8,cO 32 8,cO 33 8,aW 27 4 1,mM 29 26 28 8 1,fG 31 197 25 30,aW 34 4 0,mM 36 33 35 8 1,fG 38 197 32 37,d_ 39 31 38] (zC 39 (zR [cO 40 8,aW 41 4 1,mM 43 40 42 8 1,af 9 44]) .skip))) (zS [yY 45 2,[o1 47 (.data .min [.t 46,kD 4])],af 10 47] (zQ (.join [⟨0,bz,false⟩] 1237940039285098799922419713 none (zS [Bn 48 0 1,jh 52 51] (.block 0 (.loop [⟨0,bz,false⟩,⟨53,[.i .i64],false⟩] 1237940039278624875458205697 (zS [d_ 54 53 52] (zQ (zC 54 .skip (.exit 0)) (zQ (.join [⟨0,bz,false⟩] 618970019606661340430604289 none (.block 1 (zS [af 55 53,af 11 55] (zS [Bn 56 0 1,af 60 11,jy 61 59 60,qy 12 61] (zQ (.join [⟨84,[.b],false⟩] 38685621615982115163209728 none (zR [qy 62 12,gN 63 62,zJf 65 0 1 4 3 64,af 66 65,zJe 67 12 4,zJe 68 67 4,ol 69 68 4,[o2 70 (.load 0 [(1,4)] 2 (.t 69) 1 false) 4 true],cK 71 2 4,xu 72 70 71 4,iT 66 72 73,EY 8 75 75 12,zJe 76 12 12,zJe 77 76 12,ol 78 77 12,[o2 79 (.load 0 [(1,4)] 0 (.t 78) 1 false) 12 true],kT 80 75 79 12,tV 81 8 1 80 12,cK 82 9 12,xu 83 81 82 12,lC 74 83 84])) (zC 84 (zR [qy 85 12,af 86 10,gN 87 85,zBg 0 59 0 1 4 2 88 86]) .skip)))))) (zR [kQ 89 53])))))))) (zQ (.join [⟨0,bz,false⟩,⟨6,[.i .i64,.i .i64],false⟩] 1496577676626844588240572030761434526747400024907969 (some [⟨6,[.i .i64,.i .i64],false⟩,⟨7,[.b],false⟩,⟨0,bz,false⟩]) (zS [Bn 90 0 1,jh 94 93] (.block 2 (.loop [⟨0,bz,false⟩,⟨6,[.i .i64,.i .i64],false⟩,⟨95,[.i .i64],false⟩] 1496577676626844588240543558140530963001077345050817 (zS [d_ 96 95 94] (zQ (zC 96 .skip (.exit 2)) (zQ (.join [⟨0,bz,false⟩,⟨6,[.i .i64,.i .i64],false⟩] 748288838313422294120128178025708377388650374127809 (some [⟨6,[.i .i64,.i .i64],false⟩,⟨7,[.b],false⟩,⟨0,bz,false⟩]) (.block 3 (zS [af 97 95,af 13 97] (zS [Bn 98 0 1,af 102 13,jy 103 101 102,qy 14 103] (zQ (.seq (.join [⟨137,[.b],false⟩] 348449143706758576982843927586183397244928 none (zR [qy 104 14,gN 105 104,zJf 107 0 1 4 3 106,af 108 107,zJg 109 14 4,zJg 110 109 4,rE 111 110 4,[o2 112 (.load 0 [(1,4)] 2 (.t 111) 1 false) 4 false],dw 113 2 4,xy 114 112 113 4,Bl 108 114 115,zHq 8 117 117 12,zJg 118 14 12,zJg 119 118 12,rE 120 119 12,[o2 121 (.load 0 [(1,4)] 0 (.t 120) 1 false) 12 false],Ku 122 117 121 12,Ta 123 8 1 122 12,dw 124 9 12,xy 125 123 124 12,dw 126 125 12,EY 8 127 127 22,zJe 128 14 22,zJe 129 128 22,ol 130 129 22,[o2 131 (.load 0 [(1,4)] 1 (.t 130) 1 false) 22 true],kT 132 127 131 22,tV 133 8 1 132 22,cK 134 9 22,zEA 135 133 134 22,xB 126 135 136 136 12 116])) (zC 137 (.exit 3) .skip)) (zQ (zS [cO 138 8,qy 139 14,cO 145 8,qy 146 14,gN 140 139,zEy 142 0 1 4 141,mM 143 138 142 8 1,gN 147 146,zJf 149 0 1 4 1 148,mM 150 145 149 8 1,xw 152 144 151] (zC 152 (zS [qy 153 14,gN 154 153,zEb 0 101 0 1 4 3 155] (zS [qy 156 14,qy 160 14,gN 157 156,zEy 159 0 1 4 158,gN 161 160,zJf 163 0 1 4 1 162,JB 164 159 163,cZ 6 6 164,gu 7] .ret)) .skip)) (zR [qy 165 14,af 166 10,gN 167 165,zBg 0 101 0 1 4 2 168 166]))))))) (zR [kQ 169 95])))))))) (zS [zGC 170,cZ 6 6 170,a_ 7] .ret))))))))
def PP:aJ:=⟨[.mp qx,.rd true [.d,.d],.rd false [.d]],(.tup [(true,2),(false,1)] [.d,.d,.d])⟩
def Er:aH:=aA [(154,lM),(197,Rs)]
def Es (n:Nat):bK × aF × Int->Option ((Int × Int × Bool) × Int × List fA):=aD n Er Ep [bz,[.i .i64,.i .i64],[.i .i64]] [.i .i64,.i .i64,.b] bz [6,7] (.mp 0)
def lN:=Es BIG
def PQ:TSp:=⟨PP,[bz,[.i .i64,.i .i64],[.i .i64]],[.i .i64,.i .i64,.b],bz,Ou.j (.mp 0),lN⟩
theorem adw:aM PG Er 151 PP (Ep.ht 171) (.mp 0)=some (Ep.wc Er,[6,7]):=by kernel_rfl
theorem abF:PQ.Ok PG 151:=aN (aa mV (aa Yk (ak PG))) adw (by kernel_rfl)
theorem adx (n) (a0) (a1) (a2):Es n (a0,a1,a2) =
 (ku (a0,a2)).bind fun r0=>
 bnd r0.1.length a1.1 fun n1=>
 r0.1[n1]?.bind fun y2=>
 (bnd r0.1.length a1.2 fun n3=>
  r0.1[n3]?.bind fun y4=>
  (Au (r0.1,y4)).bind fun r5=>
  bnd r0.1.length a1.1 fun n6=>
  r0.1[n6]?.bind fun y7=>
  (Au (r0.1,y7)).bind fun r8=>
  bif decide (r5.1<r8.1) then
   bnd r0.1.length a1.2 fun n9=>
   r0.1[n9]?.bind fun y10=>
   some y10
  else some y2:Option (Int)).bind fun x11=>
 (aI n (X:=bK × Int) (B:=bK) (fun self13 x12=>
  bif decide (x12.2<(a0.2.length:Int)) then
   (bnd x12.1.2.length x12.2 fun n14=>
    (x12.1.2[n14]?.bind fun y15=>
     bif y15.2.2.2 then
      x12.1.2[n14]?.bind fun y16=>
      bif decide (y16.2.2.1=a2) then
       x12.1.2[n14]?.bind fun y17=>
       bnd r0.1.length y17.1 fun n18=>
       r0.1[n18]?.bind fun y19=>
       some (decide (y19=x11))
      else some false
     else some false:Option (Bool)).bind fun x20=>
    bif x20 then
     x12.1.2[n14]?.bind fun y21=>
     some (x12.1.1,x12.1.2.set n14 (y21.1,y21.2.1,(if (4:Int)<(IntKind.wrap .i64 (a2+(1:Int))) then (4:Int) else (IntKind.wrap .i64 (a2+(1:Int)))),y21.2.2.2))
    else some x12.1:Option (bK)).bind fun x22=>
   self13 (x22,IntKind.wrap .i64 (x12.2+(1:Int)))
  else some x12.1) (a0,(0:Int)):Option (bK)).bind fun x23=>
 (aI n (X:=bK × aF × Int) (B:=(bK × aF) ⊕ (aF × Bool × bK)) (fun self25 x24=>
  bif decide (x24.2.2<(x23.2.length:Int)) then
   (bnd x24.1.2.length x24.2.2 fun n26=>
    (x24.1.2[n26]?.bind fun y27=>
     bif y27.2.2.2 then
      some true
     else x24.1.2[n26]?.bind fun y28=>
     bif !decide (y28.2.2.1=a2) then
      some true
     else x24.1.2[n26]?.bind fun y29=>
     bnd r0.1.length y29.1 fun n30=>
     r0.1[n30]?.bind fun y31=>
     bif !decide (y31=x11) then
      x24.1.2[n26]?.bind fun y32=>
      bnd r0.1.length y32.2.1 fun n33=>
      r0.1[n33]?.bind fun y34=>
      some (!decide (y34=x11))
     else some false:Option (Bool)).bind fun x35=>
    bif x35 then
     some (Sum.inl (x24.1,x24.2.1))
    else x24.1.2[n26]?.bind fun y36=>
    bnd r0.1.length y36.1 fun n37=>
    r0.1[n37]?.bind fun y38=>
    x24.1.2[n26]?.bind fun y39=>
    bnd r0.1.length y39.2.1 fun n40=>
    r0.1[n40]?.bind fun y41=>
    bif !decide (y38=y41) then
     x24.1.2[n26]?.bind fun y42=>
     Option.bind (x24.1.2.set n26 (y42.1,y42.2.1,y42.2.2.1,true))[n26]? fun y43=>
     Option.bind (x24.1.2.set n26 (y42.1,y42.2.1,y42.2.2.1,true))[n26]? fun y44=>
     some (Sum.inr ((y43.1,y44.2.1),true,(x24.1.1,x24.1.2.set n26 (y42.1,y42.2.1,y42.2.2.1,true))))
    else x24.1.2[n26]?.bind fun y45=>
    some (Sum.inl ((x24.1.1,x24.1.2.set n26 (y45.1,y45.2.1,(if (4:Int)<(IntKind.wrap .i64 (a2+(1:Int))) then (4:Int) else (IntKind.wrap .i64 (a2+(1:Int)))),y45.2.2.2)),x24.2.1)):Option ((bK × aF) ⊕ (aF × Bool × bK))).bind fun y=>match y with
   | .inl x46=>
    self25 (x46.1,x46.2,IntKind.wrap .i64 (x24.2.2+(1:Int)))
   | .inr x46=>
    some (Sum.inr (x46.1,x46.2.1,x46.2.2))
  else some (Sum.inl (x24.1,x24.2.1))) (x23,((0:Int),(0:Int)),(0:Int)):Option ((bK × aF) ⊕ (aF × Bool × bK))).bind fun y=>match y with
 | .inl x47=>
  some (((0:Int),(0:Int),false),x47.1)
 | .inr x47=>
  some ((x47.1.1,x47.1.2,x47.2.1),x47.2.2):=by kernel_rfl
def IZ:TC:=
 (zS [bM 2 0,bM 3 1,EW 4 1000000005,l8 5 1000000006,a_ 6,a_ 7] (zQ (.seq (.join [⟨24,[.b],false⟩] 33521664 none (zR [tX 15 2 2 146,jg 17 16,wu 19 2 2 3,EZ 150 19 20 20 3,Kw 21 3 2 3 149 20 3,nL 23 22 3 18])) (zC 24 (zS [zBC 25,zGC 26,ek 4 25 4 25,cZ 5 5 26,a_ 6,a_ 7] .ret) .skip)) (zS [aW 27 2 0,zBD 29 28,EW 8 1000000009,ek 8 29 8 29] (zS [OE 9 1000000010] (zQ (.join [⟨9,kM,false⟩,⟨8,bz,false⟩] 144115187002116864 none (zS [aW 30 2 1,jh 32 31] (.block 0 (.loop [⟨9,kM,false⟩,⟨8,bz,false⟩,⟨33,[.i .i64],false⟩] 144115179485924096 (zS [d_ 34 33 32] (zQ (zC 34 .skip (.exit 0)) (zQ (.join [⟨9,kM,false⟩,⟨8,bz,false⟩] 72057559678192384 none (.block 1 (zS [jV 35 31 33 4 4,OE 11 1000000012,cZ 11 11 36] (zQ (.seq (.join [⟨48,[.b],false⟩] 562812514467840 none (zR [ky 37 11 0 3 0,kP 41 38 40,ow 42 41 5 11 1 5,nM 45 5 3 1 5,xu 47 44 46 5,lC 42 47 48])) (zC 48 (zS [bS 49 11 4,cZ 9 9 49] (.exit 1)) .skip)) (zR [mO 50 8 1,bS 52 11 4,zGs 53 52,Kr 51 51 53 54 51 51 8 54,bO 55,rD 8 54 51 8 1 55 54]))))) (zR [kQ 56 33])))))))) (zQ (.join [⟨8,bz,false⟩,⟨4,bz,false⟩,⟨5,[.i .i64,.i .i64],false⟩] 75557719610726247592432 (some [⟨4,bz,false⟩,⟨5,[.i .i64,.i .i64],false⟩,⟨6,[.b],false⟩,⟨7,[.b],false⟩]) (zS [aW 57 9 2,af 12 58] (.block 2 (.loop [⟨8,bz,false⟩,⟨4,bz,false⟩,⟨5,[.i .i64,.i .i64],false⟩,⟨12,[.i .i64],false⟩] 75557287265162020024816 (zQ (.seq (.join [⟨64,[.b],false⟩] 36317027395115679744 none (zR [af 59 12,zGE 60 59,ow 61 60 2 9 3 2,lC 61 63 64])) (zC 64 .skip (.exit 2))) (zQ (.block 3 (zS [bS 68 3 2,af 69 12,zIh 151 8 68 69 70 8 70,bH 70 67 70,zHr 71 67 0 2,yV 72 67 2,l8 13 1000000014,cZ 13 13 71,af 14 72] (zS [af 73 14] (zC 73 (zS [gI 74 8 2,zHe 4 8 13 75 75,Bg 74 4 74 4 74 74 8,cZ 5 5 75,gu 6,gu 7] .ret) .skip)))) (zR [af 65 12,oh 66 65,af 12 66]))))))) (zS [gI 76 8 2,zGC 77,Bg 76 4 76 4 76 76 8,cZ 5 5 77,a_ 6,gu 7] .ret)))))))
def Uv:aJ:=⟨[.rd true qx,.rd true [.d,.d]],(.tup [(true,2),(true,2),(false,1),(false,1)] [.d,.sl (.own none) [.d,.d,.d,.d],.d,.d,.d,.d])⟩
def I1:aH:=aA [(146,Av),(150,sV),(149,IY),(151,PQ)]
def I4 (n:Nat):bK × aF->Option (Zt8 × Unit):=aD n I1 IZ [bz,[.i .i64,.i .i64]] Ty7 [] [4,5,6,7] .no
def jd:=I4 BIG
def I5:TSp:=⟨Uv,[bz,[.i .i64,.i .i64]],Ty7,[],Ou.j .no,jd⟩
theorem ahv:aM PG I1 67 Uv (IZ.ht 78) .no=some (IZ.wc I1,[4,5,6,7]):=by kernel_rfl
theorem PR:I5.Ok PG 67:=aN (aa BR (aa vK (aa PN (aa abF (ak PG))))) ahv (by kernel_rfl)
theorem ahw (n) (a0) (a1):I4 n (a0,a1) = ((uW a0).bind fun r0=> bif !r0.1 then some true else (jc a0).bind fun r1=> (yj (r1.1,a1)).bind fun r2=> some !r2.1:Option (Bool)).bind fun x3=> bif x3 then some (((0:Int),[],(0:Int),(0:Int),false,false),()) else (aI n (X:=fA × bK × Int) (B:=fA × bK) (fun self5 x4=> bif decide (x4.2.2<(a0.2.length:Int)) then (bnd a0.2.length x4.2.2 fun n6=> a0.2[n6]?.bind fun y7=> (bif decide (y7.1=a1.1) then some (decide (y7.2.1=a1.2)) else some false:Option (Bool)).bind fun x8=> bif x8 then some (y7,x4.2.1) else bif decide (x4.2.1.2.length+[y7].length<=4294967296) then some (x4.1,(x4.2.1.1,x4.2.1.2++[y7])) else none:Option (fA × bK)).bind fun x9=> self5 (x9.1,x9.2,IntKind.wrap .i64 (x4.2.2+(1:Int))) else some (x4.1,x4.2.1)) (((0:Int),(0:Int),(0:Int),false),(a0.1,[]),(0:Int)):Option (fA × bK)).bind fun x10=> (aI n (X:=bK × bK × aF × Int) (B:=(bK × bK × aF) ⊕ (bK × aF × Bool × Bool)) (fun self12 x11=> (bif decide ((0:Int)<=x11.2.2.2) then some x10.1.2.2.2 else some false:Option (Bool)).bind fun x13=> bif x13 then (lN (x11.1,a1,x11.2.2.2)).bind fun r14=> bif r14.1.2.2 then some (Sum.inr (r14.2,(r14.1.1,r14.1.2.1),true,true)) else self12 (r14.2,x11.2.1,x11.2.2.1,IntKind.wrap .i64 (x11.2.2.2-(1:Int))) else some (Sum.inl (x11.1,x11.2.1,x11.2.2.1))) (x10.2,((0:Int),[]),((0:Int),(0:Int)),x10.1.2.2.1):Option ((bK × bK × aF) ⊕ (bK × aF × Bool × Bool))).bind fun y=>match y with | .inl x15=> some ((x15.1.1,x15.1.2,(0:Int),(0:Int),false,true),()) | .inr x15=> some ((x15.1.1,x15.1.2,x15.2.1.1,x15.2.1.2,x15.2.2),()):=by kernel_rfl
def Rw:TC:=
 (zS [bM 1 0,wm 2] (zS [bO 3,nK 4 1 1 3 2,dH 5 150 4,[o5 (.ext 5 1 1) 6 5],bH 6 2 6] .ret))
def abG:aJ:=⟨[.rd true EU],(.one false fJ)⟩
def Rx:aH:=aA [(150,sV)]
def Ry (n:Nat):l_->Option ((List aF) × Unit):=aD n Rx Rw [fQ] [.sl [.i .i64,.i .i64]] [] [2] .no
def I6:=Ry BIG
def abH:TSp:=⟨abG,[fQ],[.sl [.i .i64,.i .i64]],[],Ou.j .no,I6⟩
theorem al0:aM PG Rx 152 abG (Rw.ht 7) .no=some (Rw.wc Rx,[2]):=by kernel_rfl
theorem aj6:abH.Ok PG 152:=aN (aa vK (ak PG)) al0 (by kernel_rfl)
theorem al1 (n) (a0):Ry n a0 = (jc (a0.2.1,a0.2.2.1)).bind fun r0=> some (r0.1.2,()):=by kernel_rfl
def pV:TC:=
 (zS [wm 4] (zS [wm 5] (zQ (.join [⟨0,fQ,false⟩,⟨5,[.sl [.i .i64,.i .i64]],false⟩] 2251799813685153 none (zS [bQ 12,qy 13 12,XD 14 0 0 13 7,dH 15 152 14,jh 16 15] (.block 0 (.loop [⟨0,fQ,false⟩,⟨5,[.sl [.i .i64,.i .i64]],false⟩,⟨17,[.i .i64],false⟩] 2251799813574561 (zS [d_ 18 17 16] (zQ (zC 18 .skip (.exit 0)) (zQ (.join [⟨0,fQ,false⟩,⟨5,[.sl [.i .i64,.i .i64]],false⟩] 1125899906322337 none (.block 1 (zS [jV 19 15 17 2 2,l8 7 1000000008,cZ 7 7 20] (zQ (.join [⟨30,[.b],false⟩] 2145386496 none (zR [aW 21 7 0,af 23 1,kP 24 22 23,af 25 24,gJ 26 4 7 1 4,dw 28 1 4,zDs 29 27 28 4,mK 25 29 30])) (zC 30 (zS [bQ 32,[⟨false,[],[1000000009,1000000010],.det 1 (.same 32),[33],(some 33),none⟩],zIv 1000000009 1000000010 33 34 34,XE 1000000009 1000000010 0 1 34 2 35 35,zHe 1000000009 1000000010 7 36 36,zKp 1000000009 1000000010 67 35 36 37 37 31 31 0 2,zHm 1000000009 1000000010 31 2 2 39 39,Tc 1000000009 1000000010 31 4 40 40,Tc 1000000009 1000000010 31 5 41 41,zHo 1000000010 8 1000000009 8,zHp 1000000009 9 1000000010 9,ek 8 38 8 38,cZ 9 9 39,af 10 40,af 11 41] (zS [bQ 42,gI 43 8 2,gN 44 42,zJh 43 0 45 43 0 43 43 8 35] (zR [bH 5 46 5,bS 47 7 2,E5 48 47 46 46 5]))) .skip))))) (zR [kQ 50 17])))))))) (zS [om 5 51 5 4] .ret))))
def AO:aJ:=⟨[.mp EU,.rd false [.d]],(.one false fJ)⟩
def pW:aH:=aA [(152,abH),(67,I5)]
def pX (n:Nat):l_ × Int->Option ((List aF) × Int × Int × List fA × Int × Bool × List aF × List Int):=aD n pW pV [fQ,[.i .i64]] [.sl [.i .i64,.i .i64]] fQ [4] (.mp 0)
def lm:=pX BIG
def AP:TSp:=⟨AO,[fQ,[.i .i64]],[.sl [.i .i64,.i .i64]],fQ,Ou.j (.mp 0),lm⟩
theorem Rz:aM PG pW 68 AO (pV.ht 52) (.mp 0)=some (pV.wc pW,[4]):=by kernel_rfl
theorem Ov:AP.Ok PG 68:=aN (aa aj6 (aa PR (ak PG))) Rz (by kernel_rfl)
theorem RA (n) (a0) (a1):pX n (a0,a1) = ((I6 a0).bind fun r0=> aI n (X:=l_ × (List aF) × Int) (B:=l_ × (List aF)) (fun self2 x1=> bif decide (x1.2.2<(r0.1.length:Int)) then (bnd r0.1.length x1.2.2 fun n3=> r0.1[n3]?.bind fun y4=> (bif decide (y4.1=a1) then some true else some (decide (y4.2=a1)):Option (Bool)).bind fun x5=> bif x5 then (jd ((x1.1.2.1,x1.1.2.2.1),y4)).bind fun r6=> bif decide (x1.2.1.length+[y4].length<=4294967296) then some ((x1.1.1,r6.1.1,r6.1.2.1,x1.1.2.2.2),x1.2.1++[y4]) else none else some (x1.1,x1.2.1):Option (l_ × (List aF))).bind fun x7=> self2 (x7.1,x7.2,IntKind.wrap .i64 (x1.2.2+(1:Int))) else some (x1.1,x1.2.1)) (a0,[],(0:Int)):Option (l_ × (List aF))).bind fun x8=> some (x8.2,x8.1):=by kernel_rfl
def I7:TC:=
 (zS [bM 2 0,bM 3 1,Bh 4 1000000005,a_ 5] (zQ (.seq (.join [⟨20,[.b],false⟩] 2097088 none (zR [bS 6 2 2,dH 7 193 6,gX 8 7,af 9 8,gJ 10 3 2 0 3,Kw 12 3 2 3 189 11 3,nO 14 13 3 9,wu 17 2 2 10,wu 18 3 2 10,yX 149 17 18 19 19 10,mK 16 19 20])) (zC 20 (zS [zGp 21,ek 4 21 4 21,a_ 5] .ret) .skip)) (zS [ky 22 2 0 2 1,nN 26 3 2 156 25,zGq 23 27 28 27,ek 4 28 4 28,gu 5] .ret)))
def Uw:aJ:=⟨[.rd true wN,.rd true [.d,.d]],(.tup [(true,2),(false,1)] Ct9)⟩
def I8:aH:=aA [(193,IC),(189,BL),(149,IY),(156,vJ)]
def I9 (n:Nat):jB × aF->Option (alz × Unit):=aD n I8 I7 [eH,[.i .i64,.i .i64]] VA [] [4,5] .no
def I_:=I9 BIG
def Ux:TSp:=⟨Uw,[eH,[.i .i64,.i .i64]],VA,[],Ou.j .no,I_⟩
theorem ahx:aM PG I8 198 Uw (I7.ht 29) .no=some (I7.wc I8,[4,5]):=by kernel_rfl
theorem ady:Ux.Ok PG 198:=aN (aa Px (aa H_ (aa PN (aa Ae (ak PG))))) ahx (by kernel_rfl)
theorem ahy (n) (a0) (a1):I9 n (a0,a1) = ((yf a0).bind fun r0=> bif !r0.1 then some true else (wF (a0.1,a1)).bind fun r1=> bif !r1.1 then some true else (yj (a0,a1)).bind fun r2=> some r2.1:Option (Bool)).bind fun x3=> bif x3 then some (((0:Int),[],false),()) else (oG (a0.2,a1)).bind fun r4=> some ((a0.1,r4.1,true),()):=by kernel_rfl
end
end Go.Fw
