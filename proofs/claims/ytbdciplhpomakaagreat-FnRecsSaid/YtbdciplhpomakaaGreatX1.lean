/- The given functions, as what they compute; each is shown to be what the code does. No conditions. -/
import Derived.Test.YtbdciplhpomakaaGreatX0
set_option linter.unusedVariables false
set_option linter.unusedSimpArgs false
set_option linter.unusedSectionVars false
namespace Go.Fw
noncomputable section
def Ew:TC:=
 (zS [kN 1 0] (zQ (.seq (.join [⟨17,[.b],false⟩] 261888 none (zR [iY 8 1 0 8,uI 10 42 9 12,oF 11 10,oD 13 4 1 1 4,Ui 15 14 4,Uf 16 15 12 4,uJ 12 16 17])) (zC 17 (zS [bf 2] .ret) .skip)) (zS [bn 3] (zQ (.join [⟨3,[.i .i64],false⟩] 2475880078570760549797986556 (some [⟨2,[.b],false⟩]) (zS [bn 4] (.block 0 (.loop [⟨3,[.i .i64],false⟩,⟨4,[.i .i64],false⟩] 2475880078570760549797986556 (zQ (zS [Uo 18 4 1 1 21] (zC 22 .skip (.exit 0))) (zQ (.join [⟨3,[.i .i64],false⟩] 2475880078570760549764694252 (some [⟨2,[.b],false⟩]) (.block 1 (zQ (zS [bP 25 1 1,af 27 4,mJ 28 26 27 1,ib 30 208 29,h_ 31 30] (zC 31 (zS [bf 2] .ret) .skip)) (zS [bP 32 1 1,af 34 4,mJ 35 33 34 1,KY 37 186 36 5] (zS [af 38 3,fV 39 5,kX 40 39,rZ 41 38 40 3] (zQ (.seq (.join [⟨69,[.b],false⟩] 1180591616319364792320 none (zR [fV 42 5,fV 43 5,kX 44 43,F6 45 44,iW 46 42 45,Ay 47 5 1 46,bP 48 1 0,zAE 50 47 49,y_ 51 50 4 9,Uf 53 52 0 9,dH 54 53 9,C8 55 12 1 1,fq 57 4 12,zDr 58 57 12,CZ 59 56 58 12,Uh 60 56 1 59 12,zGz 186 60 61 61 12,[o2 62 (.index 61 (kD 0)) 12 true],Uh 63 61 1 62 12,zGw 5 64 64 12,[o2 65 (.index 64 (kD 0)) 12 true],Uh 66 5 1 65 12,[o2 67 (.data (.bin .geq) [.t 63,.t 66]) 12 true],KZ 54 67 68 68 9 51])) (zC 69 (zS [bf 2] .ret) .skip)) (zS [bn 6] (.block 2 (.loop [⟨6,[.i .i64],false⟩] 2475878897979139832386945220 (zQ (zS [C9 70 6 4] (zC 72 .skip (.exit 2))) (zQ (.join [] 2475842299638897592636539012 (some [⟨2,[.b],false⟩]) (.block 3 (zS [bn 7] (.block 4 (.loop [⟨7,[.i .i64],false⟩] 2475842299638897592636539012 (zQ (zS [af 75 7,fV 76 5,rY 77 76 75] (zC 78 .skip (.exit 4))) (zQ (.block 5 (zS [af 83 6,fV 86 5,af 87 7,bP 81 1 1,mJ 84 82 83 1,iW 88 86 87,Ay 89 5 1 88,kZ 90 204 85 89] (zC 90 (zS [bf 2] .ret) .skip))) (zR [eu 79 7 7])))))))) (zR [eu 73 6 6])))))))))))) (zR [eu 23 4 4]))))))) (zS [QA 91 3 1 0,yX 94 91 93,af 2 94] .ret)))))
def QR:aI:=⟨[.rd true [.d,.sl (.own none) gK]],(.one false [.d])⟩
def Ey:aJ:=aA [(42,dz),(208,YN),(186,tL),(204,qj)]
def Ez (n:Nat):vw->Option ((Bool) × Unit):=aB n Ey Ew [oH] [.b] [] [2] .no
def EA:=Ez BIG
def QS:TSp:=⟨QR,[oH],[.b],[],Ou.j .no,EA⟩
theorem adI:aL PG Ey 206 QR (Ew.ht 95) .no=some (Ew.wc Ey,[2]):=by kernel_rfl
theorem abV:QS.Ok PG 206:=aM (ae cB (ae ahk (ae wJ (ae qW (ak PG))))) adI (by kernel_rfl)
theorem adJ (n) (a0):Ez n a0 =
 ((a_ (a0.1,(1:Int),(12:Int))).bind fun r0=>
  bif !r0.1 then
   some true
  else some (decide ((12:Int)<(a0.2.length:Int))):Option (Bool)).bind fun x1=>
 bif x1 then
  some (false,())
 else (aO n (X:=Int × Int) (B:=(Int) ⊕ (Bool)) (fun self3 x2=>
  bif decide (x2.2<(a0.2.length:Int)) then
   (bnd a0.2.length x2.2 fun n4=>
    a0.2[n4]?.bind fun y5=>
    (Nq y5).bind fun r6=>
    bif !r6.1 then
     some (Sum.inr false)
    else bnd a0.2.length x2.2 fun n7=>
    a0.2[n7]?.bind fun y8=>
    (iD y8).bind fun r9=>
    (bnd r9.1.length (IntKind.wrap .i64 ((r9.1.length:Int)-(1:Int))) fun n10=>
     r9.1[n10]?.bind fun y11=>
     bif decide (a0.1<=y11) then
      some true
     else bif decide ((0:Int)<x2.2) then
      bnd a0.2.length (IntKind.wrap .i64 (x2.2-(1:Int))) fun n12=>
      a0.2[n12]?.bind fun y13=>
      (iD y13).bind fun r14=>
      bnd r14.1.length (0:Int) fun n15=>
      r14.1[n15]?.bind fun y16=>
      bnd r9.1.length (0:Int) fun n17=>
      r9.1[n17]?.bind fun y18=>
      some (decide (y18<=y16))
     else some false:Option (Bool)).bind fun x19=>
    bif x19 then
     some (Sum.inr false)
    else aO n (X:=Int) (B:=(Int) ⊕ (Bool)) (fun self21 x20=>
     bif decide (x20<x2.2) then
      (aO n (X:=Int) (B:=(Unit) ⊕ (Bool)) (fun self23 x22=>
       bif decide (x22<(r9.1.length:Int)) then
        bnd a0.2.length x20 fun n24=>
        a0.2[n24]?.bind fun y25=>
        bnd r9.1.length x22 fun n26=>
        r9.1[n26]?.bind fun y27=>
        (g_ (y25,y27)).bind fun r28=>
        bif r28.1 then
         some (Sum.inr false)
        else self23 (IntKind.wrap .i64 (x22+(1:Int)))
       else some (Sum.inl ())) (0:Int):Option ((Unit) ⊕ (Bool))).bind fun y=>match y with
      | .inl x29=>
       self21 (IntKind.wrap .i64 (x20+(1:Int)))
      | .inr x29=>
       some (Sum.inr x29)
     else some (Sum.inl (IntKind.wrap .i64 (x2.1+(r9.1.length:Int))))) (0:Int):Option ((Int) ⊕ (Bool))).bind fun y=>match y with
   | .inl x30=>
    self3 (x30,IntKind.wrap .i64 (x2.2+(1:Int)))
   | .inr x30=>
    some (Sum.inr x30)
  else some (Sum.inl x2.1)) ((0:Int),(0:Int)):Option ((Int) ⊕ (Bool))).bind fun y=>match y with
 | .inl x31=>
  some (decide (x31=a0.1),())
 | .inr x31=>
  some (x31,()):=by kernel_rfl
def Nr:TC:=
 (zS [dG 2 0,bn 4] (zQ (zS [dY 6 2 2,ib 7 206 6,h_ 8 7] (zC 8 (zS [zEf 4] .ret) .skip)) (zQ (.join [] 16776752 (some [⟨4,[.i .i64],false⟩]) (zS [bn 5] (.block 0 (.loop [⟨5,[.i .i64],false⟩] 16776752 (zQ (zS [QA 9 5 2 1,rY 12 11 9] (zC 13 .skip (.exit 0))) (zQ (.block 1 (zS [bP 16 2 1,af 18 5,mJ 19 17 18 1,af 21 1,kZ 22 204 20 21] (zC 22 (zS [AL 23 5 4] .ret) .skip))) (zR [eu 14 5 5]))))))) (zS [zEf 4] .ret))))
def YO:aI:=⟨[.rd true [.d,.sl (.own none) gK],.rd false [.d]],(.one false [.d])⟩
def Ns:aJ:=aA [(206,QS),(204,qj)]
def Nt (n:Nat):vw × Int->Option ((Int) × Unit):=aB n Ns Nr [oH,[.i .i64]] [.i .i64] [] [4] .no
def j_:=Nt BIG
def xu:TSp:=⟨YO,[oH,[.i .i64]],[.i .i64],[],Ou.j .no,j_⟩
theorem aj9:aL PG Ns 183 YO (Nr.ht 24) .no=some (Nr.wc Ns,[4]):=by kernel_rfl
theorem zz:xu.Ok PG 183:=aM (ae abV (ae qW (ak PG))) aj9 (by kernel_rfl)
theorem aj_ (n) (a0) (a1):Nt n (a0,a1) = (EA a0).bind fun r0=> bif !r0.1 then some ((-1:Int),()) else (aO n (X:=Int) (B:=(Unit) ⊕ (Int)) (fun self2 x1=> bif decide (x1<(a0.2.length:Int)) then bnd a0.2.length x1 fun n3=> a0.2[n3]?.bind fun y4=> (g_ (y4,a1)).bind fun r5=> bif r5.1 then some (Sum.inr x1) else self2 (IntKind.wrap .i64 (x1+(1:Int))) else some (Sum.inl ())) (0:Int):Option ((Unit) ⊕ (Int))).bind fun y=>match y with | .inl x6=> some ((-1:Int),()) | .inr x6=> some (x6,()):=by kernel_rfl
def Sn:TC:=
 (zS [kN 1 0] (zQ (zS [QB 12 1 2 123,ib 14 127 13,h_ 15 14] (zC 15 (zS [bf 2] .ret) .skip)) (zQ (.join [] 2147418124 (some [⟨2,[.b],false⟩]) (zS [bn 3] (.block 0 (.loop [⟨3,[.i .i64],false⟩] 2147418124 (zQ (zS [Uo 16 3 1 1 19] (zC 20 .skip (.exit 0))) (zQ (.block 1 (zS [bP 23 1 1,af 25 3,zKB 26 24 25 4 2,zGy 29 42 28 0 4,h_ 30 29] (zC 30 (zS [bf 2] .ret) .skip))) (zR [eu 21 3 3]))))))) (zS [bP 31 1 0,af 4 32] (zQ (.join [] 1267650600228229401488113274868 (some [⟨2,[.b],false⟩]) (zS [bn 5] (.block 2 (.loop [⟨4,[.i .i64],false⟩,⟨5,[.i .i64],false⟩] 1267650600228229401488113274868 (zQ (zS [af 33 5,zAA 34 33 4] (zC 34 .skip (.exit 2))) (zQ (.join [⟨4,[.i .i64],false⟩] 1267650600228229401359264255956 (some [⟨2,[.b],false⟩]) (.block 3 (zS [dY 38 1 2,af 39 5,KW 40 182 38 39 37 2,gW 42 37 2,zGr 6 1000000007,AC 6 41 6 41] (zQ (zS [af 43 7,h_ 44 43] (zC 44 (zS [bf 2] .ret) .skip)) (zQ (.join [] 73786941110466118404 (some [⟨2,[.b],false⟩]) (zS [bn 8] (.block 4 (.loop [⟨8,[.i .i64],false⟩] 73786941110466118404 (zQ (zS [af 45 8,uM 46 6 1,rY 48 47 45] (zC 49 .skip (.exit 4))) (zQ (.join [] 73782472695210836484 (some [⟨2,[.b],false⟩]) (.block 5 (zS [uM 52 6 1,af 54 8,iW 55 53 54,Uj 56 6 1 1 55,ib 57 186 56,kX 58 57,af 9 58] (zQ (.join [⟨65,[.b],false⟩] 73210515542534782976 none (zR [af 59 9,w_ 60 59 1,Ga 61 60 9 2,fq 63 4 2,zGA 64 62 63 2,oZ 61 64 65])) (zC 65 (zS [bf 2] .ret) .skip))))) (zR [eu 50 8 8]))))))) (zQ (.join [] 316912649983270374079337597956 (some [⟨2,[.b],false⟩]) (zS [bn 10] (.block 6 (.loop [⟨10,[.i .i64],false⟩] 316912649983270374079337597956 (zQ (zS [Uo 66 10 1 1 69] (zC 70 .skip (.exit 6))) (zQ (.join [] 316912640612324384634885376004 (some [⟨2,[.b],false⟩]) (.block 7 (zS [bP 73 1 1,Uq 75 10 74 4 4,zGq 11 1000000012,gN 11 11 77] (zQ (.join [⟨97,[.b],false⟩] 316912347825602446716882124800 none (zR [bP 78 11 3,oF 80 79,AA 82 3 11 2 3,fq 84 5 3,Qp 85 83 84 3,ic 81 85 86,zGB 88,jJ 89 9,lN 90 11 0 89 9,qP 183 88 90 91 91 9,zGB 92,jJ 93 9,lN 94 11 1 93 9,qP 183 92 94 95 95 9,zEq 96 91 95 9,oZ 87 96 97])) (zC 97 (zS [bf 2] .ret) .skip))))) (zR [Mw 71 10]))))))) (zR [af 98 4,zDc 99 98 2,af 4 99]))))))) (zR [eu 35 5 5]))))))) (zS [fI 2] .ret))))))
def abW:aI:=⟨[.rd true Yv],(.one false [.d])⟩
def Sq:aJ:=aA [(123,tF),(127,zy),(42,dz),(182,pE),(186,tL),(183,xu)]
def Sr (n:Nat):gZ->Option ((Bool) × Unit):=aB n Sq Sn [eX] [.b] [] [2] .no
def vG:=Sr BIG
def Bi:TSp:=⟨abW,[eX],[.b],[],Ou.j .no,vG⟩
theorem al5:aL PG Sq 180 abW (Sn.ht 100) .no=some (Sn.wc Sq,[2]):=by kernel_rfl
theorem Dp:Bi.Ok PG 180:=aM (ae wI (ae Es (ae cB (ae tK (ae wJ (ae zz (ak PG))))))) al5 (by kernel_rfl)
theorem al6 (n) (a0):Sr n a0 =
 (jg a0).bind fun r0=>
 (tH r0.1).bind fun r1=>
 bif !r1.1 then
  some (false,())
 else (aO n (X:=Int) (B:=(Unit) ⊕ (Bool)) (fun self3 x2=>
  bif decide (x2<(a0.2.length:Int)) then
   bnd a0.2.length x2 fun n4=>
   a0.2[n4]?.bind fun y5=>
   (a_ (y5.2.2.1,(0:Int),(4:Int))).bind fun r6=>
   bif !r6.1 then
    some (Sum.inr false)
   else self3 (IntKind.wrap .i64 (x2+(1:Int)))
  else some (Sum.inl ())) (0:Int):Option ((Unit) ⊕ (Bool))).bind fun y=>match y with
 | .inl x7=>
  (aO n (X:=Int × Int) (B:=(Unit) ⊕ (Bool)) (fun self9 x8=>
   bif decide (x8.2<=(4:Int)) then
    ((l6 (a0,x8.2)).bind fun r10=>
     bif !r10.1.2.2 then
      some (Sum.inr false)
     else (aO n (X:=Int) (B:=(Unit) ⊕ (Bool)) (fun self12 x11=>
      bif decide (x11<(r10.1.2.1.length:Int)) then
       (bnd r10.1.2.1.length x11 fun n13=>
        r10.1.2.1[n13]?.bind fun y14=>
        (iD y14).bind fun r15=>
        (bif decide ((1:Int)<(r15.1.length:Int)) then
         some (decide (x8.1<(r15.1.length:Int)))
         else some false:Option (Bool)).bind fun x16=>
        bif x16 then
         some (Sum.inr false)
        else some (Sum.inl ()):Option ((Unit) ⊕ (Bool))).bind fun y=>match y with
       | .inl x17=>
        self12 (IntKind.wrap .i64 (x11+(1:Int)))
       | .inr x17=>
        some (Sum.inr x17)
      else some (Sum.inl ())) (0:Int):Option ((Unit) ⊕ (Bool))).bind fun y=>match y with
     | .inl x18=>
      (aO n (X:=Int) (B:=(Unit) ⊕ (Bool)) (fun self20 x19=>
       bif decide (x19<(a0.2.length:Int)) then
        (bnd a0.2.length x19 fun n21=>
         a0.2[n21]?.bind fun y22=>
         (bif !y22.2.2.2 then
          bif decide (y22.2.2.1=x8.2) then
           (j_ ((r10.1.1,r10.1.2.1),y22.1)).bind fun r23=>
           (j_ ((r10.1.1,r10.1.2.1),y22.2.1)).bind fun r24=>
           some (!decide (r23.1=r24.1))
          else some false
          else some false:Option (Bool)).bind fun x25=>
         bif x25 then
          some (Sum.inr false)
         else some (Sum.inl ()):Option ((Unit) ⊕ (Bool))).bind fun y=>match y with
        | .inl x26=>
         self20 (IntKind.wrap .i64 (x19+(1:Int)))
        | .inr x26=>
         some (Sum.inr x26)
       else some (Sum.inl ())) (0:Int):Option ((Unit) ⊕ (Bool))).bind fun y=>match y with
      | .inl x27=>
       bif decide ((2:Int)=0) then
        none
       else some (Sum.inl (IntKind.wrap .i64 (Int.tdiv x8.1 (2:Int))))
      | .inr x27=>
       some (Sum.inr x27)
     | .inr x18=>
      some (Sum.inr x18):Option ((Int) ⊕ (Bool))).bind fun y=>match y with
    | .inl x28=>
     self9 (x28,IntKind.wrap .i64 (x8.2+(1:Int)))
    | .inr x28=>
     some (Sum.inr x28)
   else some (Sum.inl ())) (a0.1,(0:Int)):Option ((Unit) ⊕ (Bool))).bind fun y=>match y with
  | .inl x29=>
   some (true,())
  | .inr x29=>
   some (x29,())
 | .inr x7=>
  some (x7,()):=by kernel_rfl
def vH:TC:=
 (zS [bf 4] (zQ (zS [xh 6 0 6,xh 8 1 8,Qo 10 7 9] (zC 10 (zS [bf 4] .ret) .skip)) (zQ (.join [] 67106864 (some [⟨4,[.b],false⟩]) (zS [bn 5] (.block 0 (.loop [⟨5,[.i .i64],false⟩] 67106864 (zQ (zS [F8 11 5 0] (zC 14 .skip (.exit 0))) (zQ (.block 1 (zS [bM 17 0 5,bM 21 1 5,mJ 19 17 18 1,mJ 23 21 22 1,Qo 25 20 24] (zC 25 (zS [bf 4] .ret) .skip))) (zR [eu 15 5 5]))))))) (zS [fI 4] .ret))))
def Gh:aI:=⟨[.rd false gK,.rd false gK],(.one false [.d])⟩
def vI:aJ:=aA []
def nV (n:Nat):List Int × List (Int)->Option ((Bool) × Unit):=aB n vI vH [[.sl [.i .i64]],[.sl [.i .i64]]] [.b] [] [4] .no
def nW:=nV BIG
def vJ:TSp:=⟨Gh,[[.sl [.i .i64]],[.sl [.i .i64]]],[.b],[],Ou.j .no,nW⟩
theorem Xh:aL PG vI 181 Gh (vH.ht 26) .no=some (vH.wc vI,[4]):=by kernel_rfl
theorem Dq:vJ.Ok PG 181:=aM (ak PG) Xh (by kernel_rfl)
theorem Gi (n) (a0) (a1):nV n (a0,a1) = bif !decide ((a0.length:Int)=(a1.length:Int)) then some (false,()) else (aO n (X:=Int) (B:=(Unit) ⊕ (Bool)) (fun self1 x0=> bif decide (x0<(a0.length:Int)) then bnd a0.length x0 fun n2=> a0[n2]?.bind fun y3=> bnd a1.length x0 fun n4=> a1[n4]?.bind fun y5=> bif !decide (y3=y5) then some (Sum.inr false) else self1 (IntKind.wrap .i64 (x0+(1:Int))) else some (Sum.inl ())) (0:Int):Option ((Unit) ⊕ (Bool))).bind fun y=>match y with | .inl x6=> some (true,()) | .inr x6=> some (x6,()):=by kernel_rfl
def ql:TC:=
 (zS [dG 2 0,kN 3 1] (zQ (.join [⟨4,[.b],false⟩] 2147483632 none (zR [iY 5 2 0 5,iY 7 3 0 7,yX 9 6 8,AO 10 9 5 2 1 5,AA 13 5 3 1 5,zGC,ic 10 15 16,Mx 18 12 2 2 3 2,qP 202 19 21 22 22 12,ic 17 22 23,Mx 25 19 2 3 3 3,qP 181 26 28 29 29 19,mM 24 29 30 4])) .ret))
def Bj:aI:=⟨[.rd true Av,.rd true Av],(.one false [.d])⟩
def qm:aJ:=aA [(202,sN),(181,vJ)]
def qo (n:Nat):gT × gT->Option ((Bool) × Unit):=aB n qm ql [dx,dx] [.b] [] [4] .no
def qp:=qo BIG
def Bl:TSp:=⟨Bj,[dx,dx],[.b],[],Ou.j .no,qp⟩
theorem Su:aL PG qm 169 Bj (ql.ht 31) .no=some (ql.wc qm,[4]):=by kernel_rfl
theorem Qb:Bl.Ok PG 169:=aM (ae A9 (ae Dq (ak PG))) Su (by kernel_rfl)
theorem Sv (n) (a0) (a1):qo n (a0,a1) = (bif decide (a0.1=a1.1) then bif (a0.2.1 == a1.2.1) then (mP (a0.2.2.1,a1.2.2.1)).bind fun r0=> bif r0.1 then (nW (a0.2.2.2,a1.2.2.2)).bind fun r1=> some r1.1 else some false else some false else some false:Option (Bool)).bind fun x2=> some (x2,()):=by kernel_rfl
def EB:TC:=
 (zS [kN 1 0] (zS [dY 3 1 4,zGD 4,kZ 5 169 3 4,af 2 5] .ret))
def QT:aI:=⟨[.rd true Av],(.one false [.d])⟩
def EC:aJ:=aA [(169,Bl)]
def EE (n:Nat):gT->Option ((Bool) × Unit):=aB n EC EB [dx] [.b] [] [2] .no
def pF:=EE BIG
def EF:TSp:=⟨QT,[dx],[.b],[],Ou.j .no,pF⟩
theorem adK:aL PG EC 96 QT (EB.ht 6) .no=some (EB.wc EC,[2]):=by kernel_rfl
theorem Nu:EF.Ok PG 96:=aM (ae Qb (ak PG)) adK (by kernel_rfl)
theorem adL (n) (a0):EE n a0 = (qp (a0,((0:Int),false,[],[]))).bind fun r0=> some (r0.1,()):=by kernel_rfl
def EG:TC:=
 (zS [kN 3 1] (zQ (.join [⟨4,[.b],false⟩] 16777200 none (zR [af 5 0,uI 6 42 5 12,af 7 6,jJ 8 2,lN 9 3 0 8 2,zEw 42 9 1 10 10 2,ic 7 10 11,fq 13 0 7,AA 14 7 3 2 7,qP 139 13 15 16 16 7,ic 12 16 17,fq 19 0 13,C8 20 13 3 3,qP 140 19 21 22 22 13,mM 18 22 23 4])) .ret))
def QU:aI:=⟨[.rd false [.d],.rd true Av],(.one false [.d])⟩
def EH:aJ:=aA [(42,dz),(139,pz),(140,A8)]
def EJ (n:Nat):Int × gT->Option ((Bool) × Unit):=aB n EH EG [[.i .i64],dx] [.b] [] [4] .no
def pG:=EJ BIG
def wK:TSp:=⟨QU,[[.i .i64],dx],[.b],[],Ou.j .no,pG⟩
theorem adM:aL PG EH 80 QU (EG.ht 24) .no=some (EG.wc EH,[4]):=by kernel_rfl
theorem Bn:wK.Ok PG 80:=aM (ae cB (ae sG (ae K5 (ak PG)))) adM (by kernel_rfl)
theorem adN (n) (a0) (a1):EJ n (a0,a1) = ((a_ (a0,(1:Int),(12:Int))).bind fun r0=> bif r0.1 then (a_ (a1.1,(1:Int),(100000:Int))).bind fun r1=> bif r1.1 then (l5 (a0,a1.2.2.1)).bind fun r2=> bif r2.1 then (sH (a0,a1.2.2.2)).bind fun r3=> some r3.1 else some false else some false else some false:Option (Bool)).bind fun x4=> some (x4,()):=by kernel_rfl
def Bo:TC:=
 (zS [dG 1 0,zBb 2] (zS [xe 7,bK 7 3 7] (zQ (zS [dY 8 1 2,ib 9 180 8,h_ 10 9] (zC 10 (zS [AB 3 11 3 2] .ret) .skip)) (zS [dY 13 1 2,[o3 14 182 [.t 13,kO 0]],Yz 14 12 14 2,gW 16 12 2,zGr 4 1000000005,AC 4 15 4 15] (zQ (.join [⟨3,[.sl [.i .i64]],false⟩] 68719345736 none (zS [bn 6] (.block 0 (.loop [⟨3,[.sl [.i .i64]],false⟩,⟨6,[.i .i64],false⟩] 68719345736 (zQ (zS [QA 17 6 1 0,kY 20 17 19] (zC 20 .skip (.exit 0))) (zQ (.block 1 (zR [bK 3 23 3,af 27 6,uM 24 4 1,mH 26 4 2,kZ 28 183 26 27,iW 29 25 28,Uj 30 4 1 1 29,ib 31 186 30,zGv 32 31,Ay 33 31 1 32,KQ 34 33,KV 23 34 35 23 3])) (zR [eu 21 6 6]))))))) (zS [AB 3 36 3 2] .ret))))))
def Nv:aI:=⟨[.rd true Yv],(.one false gK)⟩
def Bp:aJ:=aA [(180,Bi),(182,pE),(183,xu),(186,tL)]
def Bq (n:Nat):gZ->Option ((List Int) × Unit):=aB n Bp Bo [eX] [.sl [.i .i64]] [] [2] .no
def nE:=Bq BIG
def Br:TSp:=⟨Nv,[eX],[.sl [.i .i64]],[],Ou.j .no,nE⟩
theorem abX:aL PG Bp 124 Nv (Bo.ht 37) .no=some (Bo.wc Bp,[2]):=by kernel_rfl
theorem K7:Br.Ok PG 124:=aM (ae Dp (ae tK (ae zz (ae wJ (ak PG))))) abX (by kernel_rfl)
theorem abY (n) (a0):Bq n a0 = (vG a0).bind fun r0=> bif !r0.1 then some ([],()) else (l6 (a0,(0:Int))).bind fun r1=> (aO n (X:=(List Int) × Int) (B:=(List Int)) (fun self3 x2=> bif decide (x2.2<a0.1) then (j_ ((r1.1.1,r1.1.2.1),x2.2)).bind fun r4=> bnd r1.1.2.1.length r4.1 fun n5=> r1.1.2.1[n5]?.bind fun y6=> (iD y6).bind fun r7=> bnd r7.1.length (0:Int) fun n8=> r7.1[n8]?.bind fun y9=> bif decide (x2.1.length+[y9].length<=4294967296) then self3 (x2.1++[y9],IntKind.wrap .i64 (x2.2+(1:Int))) else none else some x2.1) ([],(0:Int)):Option ((List Int))).bind fun x10=> some (x10,()):=by kernel_rfl
def IY:TC:=
 (zS [kN 1 0] (zQ (.seq (.join [⟨12,[.b],false⟩] 8184 none (zR [iY 3 1 0 3,uI 5 42 4 3,h_ 6 5,af 7 6,rX 8 4,Qs 9 1 1 8 2 4,Ms 180 9 10 10 4,uK 11 10 4 7])) (zC 12 (zS [bf 2] .ret) .skip)) (zQ (.join [⟨2,[.b],false⟩] 8589926404 none (zR [K3 13 1 3 4,ib 15 96 14,af 16 15,rX 17 3,KU 18 17 3,Az 19 1 1 18 3,rX 20 3,Qs 21 1 3 20 4 3,yY 80 19 21 22 22 3,dH 23 22 3,jJ 24 10,xg 25 24 10,lN 26 1 6 25 10,jJ 27 10,Qr 28 1 1 27 2 10,zGz 124 28 29 29 10,qP 181 26 29 30 30 10,KZ 23 30 31 31 3 16,af 2 32])) .ret)))
def UX:aI:=⟨[.rd true Ct3],(.one false [.d])⟩
def IZ:aJ:=aA [(42,dz),(180,Bi),(96,EF),(80,wK),(124,Br),(181,vJ)]
def I1 (n:Nat):Zt8->Option ((Bool) × Unit):=aB n IZ IY [yS] [.b] [] [2] .no
def zB:=I1 BIG
def UY:TSp:=⟨UX,[yS],[.b],[],Ou.j .no,zB⟩
theorem ahl:aL PG IZ 118 UX (IY.ht 33) .no=some (IY.wc IZ,[2]):=by kernel_rfl
theorem adO:UY.Ok PG 118:=aM (ae cB (ae Dp (ae Nu (ae Bn (ae K7 (ae Dq (ak PG))))))) ahl (by kernel_rfl)
theorem ahm (n) (a0):I1 n a0 = ((a_ (a0.1,(1:Int),(3:Int))).bind fun r0=> bif !r0.1 then some true else (vG (a0.2.1,a0.2.2.1)).bind fun r1=> some !r1.1:Option (Bool)).bind fun x2=> bif x2 then some (false,()) else ((pF a0.2.2.2).bind fun r3=> bif r3.1 then some true else (pG (a0.2.1,a0.2.2.2)).bind fun r4=> bif r4.1 then (nE (a0.2.1,a0.2.2.1)).bind fun r5=> (nW (a0.2.2.2.2.2.2,r5.1)).bind fun r6=> some r6.1 else some false:Option (Bool)).bind fun x7=> some (x7,()):=by kernel_rfl
def qw:TC:=
 (zS [dG 1 0,Qt 2 1000000003] (zS [Qk 3,iY 4 1 2 4,xf 3 5 6 3,iX 7,Qm 1 6 1 2 7 6] (zS [xe 8,iY 9 1 3 9,xf 8 10 11 8,uO 12 1 11 1 3 11] (zS [uL 13 1 4 2 2 1] .ret))))
def Bt:aI:=⟨[.rd true Av],(.one true Av)⟩
def qx:aJ:=aA []
def qy (n:Nat):gT->Option (gT × Unit):=aB n qx qw [dx] dx [] [2] .no
def gM:=qy BIG
def lD:TSp:=⟨Bt,[dx],dx,[],Ou.j .no,gM⟩
theorem Sw:aL PG qx 120 Bt (qw.ht 14) .no=some (qw.wc qx,[2]):=by kernel_rfl
theorem oI:lD.Ok PG 120:=aM (ak PG) Sw (by kernel_rfl)
theorem Sy (n) (a0):qy n a0 = bif decide (0+a0.2.2.1.length<=4294967296) then bif decide (0+a0.2.2.2.length<=4294967296) then some ((a0.1,a0.2.1,[]++a0.2.2.1,[]++a0.2.2.2),()) else none else none:=by kernel_rfl
def I4:TC:=
 (zS [dG 1 0,zBD 2 1000000003] (zS [[o1 3 (.sli kJ [])],iX 4,yU 5 4,qN 6 1 2 5,xf 3 6 7 3,iX 8,yU 9 8,Qm 1 7 1 2 9 7] (zS [K3 10 1 3 4,ib 12 120 11,uO 13 1 12 1 3 12] (zS [uL 14 1 7 2 2 1] .ret))))
def UZ:aI:=⟨[.rd true Ct3],(.one true Ct3)⟩
def I5:aJ:=aA [(120,lD)]
def I6 (n:Nat):Zt8->Option (Zt8 × Unit):=aB n I5 I4 [yS] yS [] [2] .no
def tN:=I6 BIG
def U0:TSp:=⟨UZ,[yS],yS,[],Ou.j .no,tN⟩
theorem ahn:aL PG I5 115 UZ (I4.ht 15) .no=some (I4.wc I5,[2]):=by kernel_rfl
theorem adP:U0.Ok PG 115:=aM (ae oI (ak PG)) ahn (by kernel_rfl)
theorem aho (n) (a0):I6 n a0 = bif decide (0+a0.2.2.1.length<=4294967296) then (gM a0.2.2.2).bind fun r0=> some ((a0.1,a0.2.1,[]++a0.2.2.1,r0.1),()) else none:=by kernel_rfl
def I7:TC:=
 (zS [dG 2 0,kN 3 1] (zS [iY 5 2 1 5,dY 7 3 2,kZ 8 143 6 7,af 4 8] .ret))
def U1:aI:=⟨[.rd true Ct7,.rd true [.d,.d]],(.one false [.d])⟩
def I8:aJ:=aA [(143,qU)]
def I9 (n:Nat):vo × aV->Option ((Bool) × Unit):=aB n I8 I7 [jK,[.i .i64,.i .i64]] [.b] [] [4] .no
def tO:=I9 BIG
def zD:TSp:=⟨U1,[jK,[.i .i64,.i .i64]],[.b],[],Ou.j .no,tO⟩
theorem ahp:aL PG I8 129 U1 (I7.ht 9) .no=some (I7.wc I8,[4]):=by kernel_rfl
theorem EL:zD.Ok PG 129:=aM (ae tu (ak PG)) ahp (by kernel_rfl)
theorem ahq (n) (a0) (a1):I9 n (a0,a1) = (nC (a0.2,a1)).bind fun r0=> some (r0.1,()):=by kernel_rfl
def I_:TC:=
 (zS [dG 2 0,dG 3 1,zGp 4 1000000005,bf 5] (zQ (.seq (.join [⟨20,[.b],false⟩] 2097088 none (zR [dY 6 2 2,ib 7 127 6,h_ 8 7,af 9 8,oD 10 3 2 0 3,KR 12 3 2 3,yY 128 11 12 13 13 3,kM 14 13 3 9,KR 17 2 2 10,KR 18 3 2 10,yY 129 17 18 19 19 10,uJ 16 19 20])) (zC 20 (zS [zHc 21,fZ 4 21 4 21,bf 5] .ret) .skip)) (zS [Gc 22 2 0 2 1,Da 26 3 2 130 25,[o5 (.build jK [(0,.t 23),(1,.t 27)]) 28 27],fZ 4 28 4 28,fI 5] .ret)))
def U2:aI:=⟨[.rd true Ct7,.rd true [.d,.d]],(.tup [(true,2),(false,1)] [.d,.sl (.own none) [.d,.d],.d])⟩
def Ja:aJ:=aA [(127,zy),(128,xq),(129,zD),(130,qV)]
def Jb (n:Nat):vo × aV->Option ((Int × List aV × Bool) × Unit):=aB n Ja I_ [jK,[.i .i64,.i .i64]] [.i .i64,.sl [.i .i64,.i .i64],.b] [] [4,5] .no
def Jc:=Jb BIG
def U3:TSp:=⟨U2,[jK,[.i .i64,.i .i64]],[.i .i64,.sl [.i .i64,.i .i64],.b],[],Ou.j .no,Jc⟩
theorem ahr:aL PG Ja 44 U2 (I_.ht 29) .no=some (I_.wc Ja,[4,5]):=by kernel_rfl
theorem adQ:U3.Ok PG 44:=aM (ae Es (ae zt (ae EL (ae tC (ak PG))))) ahr (by kernel_rfl)
theorem ahs (n) (a0) (a1):Jb n (a0,a1) = ((tH a0).bind fun r0=> bif !r0.1 then some true else (qR (a0.1,a1)).bind fun r1=> bif !r1.1 then some true else (tO (a0,a1)).bind fun r2=> some r2.1:Option (Bool)).bind fun x3=> bif x3 then some (((0:Int),[],false),()) else (nD (a0.2,a1)).bind fun r4=> some ((a0.1,r4.1,true),()):=by kernel_rfl
def Nw:TC:=
 (zS [dG 3 1,[o1 4 (.lit kI [.slice none 0 0])]] (zS [[o1 8 (.sli kJ [])],bK 8 5 8] (zQ (.join [⟨5,kI,false⟩] 1125899906842208 none (zS [bn 6] (.block 0 (.loop [⟨5,kI,false⟩,⟨6,[.i .i64],false⟩] 1125899906842208 (zQ (zS [bM 9 6 0,rY 11 10 9] (zC 12 .skip (.exit 0))) (zQ (.join [⟨5,kI,false⟩] 1125899906809888 none (.block 1 (zQ (.join [⟨42,[.b],false⟩] 8796092989440 none (zR [bM 15 0 6,Un 17 15 16 4,bP 20 3 0,kY 22 19 21,y_ 23 22 0 8,dH 25 6 8,Ug 26 24 25 8,KU 27 26 8,zEc 28 24 4 27 8,oD 29 8 3 0 8,zDw 31 28 30 8,dH 32 31 8,fq 33 0 17,fq 34 6 17,CZ 35 33 34 17,xg 36 35 17,zHd 37 33 4 1 36 17,C8 38 17 3 1,zDt 40 37 39 17,KZ 32 40 41 41 8 23])) (zC 42 (zR [bK 5 43 5,Qz 44 0 6 4 4,zHe 48 47,KV 43 48 49 43 5]) .skip)))) (zR [eu 13 6 6]))))))) (zS [bK 5 50 5,dY 51 3 4,zHe 52 51,KV 50 52 53 50 5] (zQ (.join [⟨5,kI,false⟩] 39614081257114154398262493344 none (zS [bn 7] (.block 2 (.loop [⟨5,kI,false⟩,⟨7,[.i .i64],false⟩] 39614081257114154398262493344 (zQ (zS [F8 54 7 0] (zC 57 .skip (.exit 2))) (zQ (.join [⟨5,kI,false⟩] 39614081255979247292165128224 none (.block 3 (zQ (.join [⟨87,[.b],false⟩] 309485008668423564117934080 none (zR [bM 60 0 7,Un 62 60 61 4,bP 65 3 0,[o1 67 (.data (.bin .gtr) [.t 64,.t 66])],y_ 68 67 0 8,dH 70 7 8,Ug 71 69 70 8,KU 72 71 8,zEc 73 69 4 72 8,oD 74 8 3 0 8,zDw 76 73 75 8,dH 77 76 8,fq 78 0 17,fq 79 7 17,CZ 80 78 79 17,xg 81 80 17,zHd 82 78 4 1 81 17,C8 83 17 3 1,zGA 85 82 84 17,KZ 77 85 86 86 8 68])) (zC 87 (zR [bK 5 88 5,Qz 89 0 7 4 4,zHe 93 92,KV 88 93 94 88 5]) .skip)))) (zR [eu 58 7 7]))))))) (zS [AB 5 95 5 4] .ret))))))
def YP:aI:=⟨[.rd false [.sl (.own none) [.d,.d,.d,.d]],.rd true [.d,.d,.d,.d]],(.one false [.sl (.own none) [.d,.d,.d,.d]])⟩
def Ny:aJ:=aA []
def Nz (n:Nat):(List gU) × gU->Option ((List gU) × Unit):=aB n Ny Nw [kI,kJ] kI [] [4] .no
def NA:=Nz BIG
def YQ:TSp:=⟨YP,[kI,kJ],kI,[],Ou.j .no,NA⟩
theorem aka:aL PG Ny 184 YP (Nw.ht 96) .no=some (Nw.wc Ny,[4]):=by kernel_rfl
theorem aht:YQ.Ok PG 184:=aM (ak PG) aka (by kernel_rfl)
theorem akb (n) (a0) (a1):Nz n (a0,a1) = (aO n (X:=(List gU) × Int) (B:=(List gU)) (fun self1 x0=> bif decide (x0.2<(a0.length:Int)) then ((bnd a0.length x0.2 fun n2=> a0[n2]?.bind fun y3=> bif decide (y3.1<a1.1) then some true else bnd a0.length x0.2 fun n4=> a0[n4]?.bind fun y5=> bif decide (y5.1=a1.1) then bnd a0.length x0.2 fun n6=> a0[n6]?.bind fun y7=> some (decide (y7.2.1<a1.2.1)) else some false:Option (Bool)).bind fun x8=> bif x8 then bnd a0.length x0.2 fun n9=> a0[n9]?.bind fun y10=> bif decide (x0.1.length+[y10].length<=4294967296) then some (x0.1++[y10]) else none else some x0.1:Option ((List gU))).bind fun x11=> self1 (x11,IntKind.wrap .i64 (x0.2+(1:Int))) else some x0.1) ([],(0:Int)):Option ((List gU))).bind fun x12=> bif decide (x12.length+[a1].length<=4294967296) then (aO n (X:=(List gU) × Int) (B:=(List gU)) (fun self14 x13=> bif decide (x13.2<(a0.length:Int)) then ((bnd a0.length x13.2 fun n15=> a0[n15]?.bind fun y16=> bif decide (a1.1<y16.1) then some true else bnd a0.length x13.2 fun n17=> a0[n17]?.bind fun y18=> bif decide (y18.1=a1.1) then bnd a0.length x13.2 fun n19=> a0[n19]?.bind fun y20=> some (decide (a1.2.1<y20.2.1)) else some false:Option (Bool)).bind fun x21=> bif x21 then bnd a0.length x13.2 fun n22=> a0[n22]?.bind fun y23=> bif decide (x13.1.length+[y23].length<=4294967296) then some (x13.1++[y23]) else none else some x13.1:Option ((List gU))).bind fun x24=> self14 (x24,IntKind.wrap .i64 (x13.2+(1:Int))) else some x13.1) (x12++[a1],(0:Int)):Option ((List gU))).bind fun x25=> some (x25,()) else none:=by kernel_rfl
def NB:TC:=
 (zS [dG 2 0,dG 3 1,zBB 4 1000000005,bf 5] (zS [zGh 1000000007 2 2 12 12,[⟨false,[],[1000000007],.call 1 123 [.t 12] .no,[13],(some 13),none⟩],zGh 1000000007 3 2 14 14,zHf 1000000007 44 13 14 15 15,zHg 1000000007 2 15 11 15 11,zHh 1000000007 11 16 11 16,zHi 1000000007 11 17 17,zGp 6 1000000007,AC 6 16 6 16] (zQ (.seq (.join [⟨24,[.b],false⟩] 33292288 none (zR [QB 18 2 2 180,oF 20 19,dH 22 7 3,uK 23 22 3 21])) (zC 24 (zS [zBC 25,fZ 4 25 4 25,bf 5] .ret) .skip)) (zS [dY 27 2 2,[o3 28 182 [.t 27,kO 0]],Yz 28 26 28 2,gW 30 26 2,zGr 8 1000000009,AC 8 29 8 29] (zS [zJD 1000000011 31 31 0,zJD 1000000011 33 33 1,zHj 1000000011 8 35 35,zJD 1000000011 36 36 0,zHf 1000000011 183 35 37 38 38,zHj 1000000011 8 39 39,zJD 1000000011 40 40 1,zHf 1000000011 183 39 41 42 42,[⟨false,[],[1000000011],.det 1 (.data (.bin .neq) [.t 38,.t 42]),[43],(some 43),none⟩,⟨false,[],[1000000011],.det 1 (.build kJ [(0,.t 32),(1,.t 34),(3,.t 43)]),[44],(some 44),none⟩],zGq 10 1000000011,gN 10 10 44] (zS [Gc 45 2 0 2 1,Da 49 10 4 184 48,[o5 (.build eX [(0,.t 46),(1,.t 50)]) 51 50],fZ 4 51 4 51,fI 5] .ret))))))
def YR:aI:=⟨[.rd true Yv,.rd true [.d,.d]],(.tup [(true,2),(false,1)] [.d,.sl (.own none) [.d,.d,.d,.d],.d])⟩
def NC:aJ:=aA [(123,tF),(44,U3),(180,Bi),(182,pE),(183,xu),(184,YQ)]
def ND (n:Nat):gZ × aV->Option (aqb × Unit):=aB n NC NB [eX,[.i .i64,.i .i64]] agN [] [4,5] .no
def qX:=ND BIG
def YS:TSp:=⟨YR,[eX,[.i .i64,.i .i64]],agN,[],Ou.j .no,qX⟩
theorem akc:aL PG NC 121 YR (NB.ht 52) .no=some (NB.wc NC,[4,5]):=by kernel_rfl
theorem ahu:YS.Ok PG 121:=aM (ae wI (ae adQ (ae Dp (ae tK (ae zz (ae aht (ak PG))))))) akc (by kernel_rfl)
theorem akd (n) (a0) (a1):ND n (a0,a1) = (jg a0).bind fun r0=> (Jc (r0.1,a1)).bind fun r1=> ((vG a0).bind fun r2=> bif !r2.1 then some true else some !r1.1.2.2:Option (Bool)).bind fun x3=> bif x3 then some (((0:Int),[],false),()) else (l6 (a0,(0:Int))).bind fun r4=> (j_ ((r4.1.1,r4.1.2.1),a1.1)).bind fun r5=> (j_ ((r4.1.1,r4.1.2.1),a1.2)).bind fun r6=> (NA (a0.2,(a1.1,a1.2,(0:Int),!decide (r5.1=r6.1)))).bind fun r7=> some ((a0.1,r7.1,true),()):=by kernel_rfl
def Bu:TC:=
 (zS [dG 3 0,dG 4 1,[o1 6 (.lit kI [.slice none 0 0])],bn 7] (zS [[o1 18 (.sli kJ [])],bP 19 3 1,KV 18 20 21 18 8] (zS [dY 23 3 2,af 24 2,KW 25 182 23 24 22 2,gW 27 22 2,zGr 9 1000000010,AC 9 26 9 26] (zS [uM 28 9 1,mH 30 9 2,bP 31 4 0,kZ 33 183 30 32,iW 34 29 33,Uj 35 9 1 1 34,KY 36 186 35 11] (zS [uM 37 9 1,mH 39 9 2,bP 40 4 1,kZ 42 183 39 41,iW 43 38 42,Uj 44 9 1 1 43,KY 45 186 44 12] (zQ (.join [⟨11,[.sl [.i .i64]],false⟩] 4433230883198976 none (zS [fV 46 12,kX 47 46,fV 48 11,rY 49 48 47] (zC 50 (zR [Uk 12 51 12 46 51,Uk 51 11 51 48 11]) .skip))) (zS [eu 52 2 13] (zQ (.join [⟨13,[.i .i64],false⟩] 54043195528454144 none (zS [af 54 13,w_ 55 54 4] (zC 55 (zR [mI 13 4]) .skip))) (zQ (.join [⟨8,kI,false⟩] 1237940039213322680861212928 none (zS [bn 14] (.block 0 (.loop [⟨8,kI,false⟩,⟨14,[.i .i64],false⟩] 1237940039213322680861212928 (zQ (zS [af 56 14,fV 57 8,rY 58 57 56] (zC 59 .skip (.exit 0))) (zQ (.join [⟨8,kI,false⟩] 1237940034817809444547592448 none (.block 1 (zQ (.join [⟨84,[.b],false⟩] 38685621615982115163209728 none (zR [fV 62 8,af 63 14,Um 64 62 63,zBh 66 8 4 3 65,af 67 66,zGw 8 68 68 5,fq 69 14 5,CZ 70 68 69 5,xg 71 70 5,zHd 72 8 4 2 71 5,fq 73 2 5,Qp 74 72 73 5,ic 67 74 75,zGw 11 77 77 14,zGw 8 78 78 14,fq 79 14 14,CZ 80 78 79 14,xg 81 80 14,Uh 82 8 4 81 14,qP 204 77 82 83 83 14,oZ 76 83 84])) (zC 84 (zR [fV 85 8,bM 86 14 13,Um 88 85 86,[o4 1 [8,57,62,85] (.store 8 [(0,4)] 2 (.t 89) (.t 87))]]) .skip)))) (zR [Mw 60 14]))))))) (zQ (.join [⟨8,kI,false⟩] 713623846352979939291202945439367293292478912 (some [⟨6,kI,false⟩,⟨7,[.i .i64],false⟩]) (zS [bn 15] (.block 2 (.loop [⟨8,kI,false⟩,⟨15,[.i .i64],false⟩] 713623846352979939291202945583482481368334784 (zQ (zS [af 90 15,fV 91 8,rY 92 91 90] (zC 93 .skip (.exit 2))) (zQ (.join [⟨8,kI,false⟩] 713623846352979863776860549031170524445868480 (some [⟨6,kI,false⟩,⟨7,[.i .i64],false⟩]) (.block 3 (zS [fV 96 11,fV 97 8,af 98 15,Um 99 97 98,Ay 101 8 4 100,kZ 102 204 96 101,af 16 102] (zS [fV 103 11,fV 104 8,af 105 15,Um 106 104 105,zBh 108 8 4 1 107,kZ 109 204 103 108,af 17 109] (zQ (.seq (.join [⟨133,[.b],false⟩] 21778070184865847027949067743009083228160 none (zR [bP 110 3 1,af 112 15,zKB 113 111 112 4 3,af 116 115,oD 117 6 3 1 6,dH 119 15 6,Ug 120 118 119 6,KU 121 120 6,[o2 122 (.load 118 [(0,4)] 2 (.t 121) 1 false) 6 false],dH 123 2 6,F9 124 122 123 6 116,y_ 126 125 16 16,zBp 128 127 16,dH 129 128 16,fq 130 17 19,Qn 131 130 19,KZ 129 131 132 132 16 126])) (zC 133 (.exit 3) .skip)) (zQ (.seq (.join [⟨137,[.b],false⟩] 326671072244100924924839623134497482997760 none (zR [af 134 16,Ga 135 134 17 1,oZ 135 136 137])) (zC 137 (zS [fV 138 8,bM 139 15 13,Um 141 138 139,[o4 1 [8,91,97,104,138] (.store 8 [(0,4)] 2 (.t 142) (.t 140))]] (.exit 3)) .skip)) (zS [fV 143 8,af 144 15,Um 145 143 144,[o4 1 [8,91,97,104,143] (.store 8 [(0,4)] 3 (.t 146) (.c [.b] [.bool true]))]] (zS [[⟨false,[],[],.det 2 (.copy 8),[147,8,99,100,106,107,145,146],(some 147),none⟩],af 148 15,bK 147 6 147,af 7 148] .ret)))))))) (zR [Mw 94 15]))))))) (zS [Uk 8 149 8 91 149,bK 149 6 149,zEf 7] .ret)))))))))))
def NE:aI:=⟨[.rd true Yv,.rd true [.d,.d],.rd false [.d]],(.tup [(false,1),(false,1)] [.sl (.own none) [.d,.d,.d,.d],.d])⟩
def Bv:aJ:=aA [(182,pE),(183,xu),(186,tL),(204,qj)]
def Bw (n:Nat):gZ × aV × Int->Option ((List gU × Int) × Unit):=aB n Bv Bu [eX,[.i .i64,.i .i64],[.i .i64]] [.sl kJ,.i .i64] [] [6,7] .no
def nG:=Bw BIG
def NF:TSp:=⟨NE,[eX,[.i .i64,.i .i64],[.i .i64]],[.sl kJ,.i .i64],[],Ou.j .no,nG⟩
theorem abZ:aL PG Bv 185 NE (Bu.ht 150) .no=some (Bu.wc Bv,[6,7]):=by kernel_rfl
theorem Zp:NF.Ok PG 185:=aM (ae tK (ae zz (ae wJ (ae qW (ak PG))))) abZ (by kernel_rfl)
theorem ab0 (n) (a0) (a1) (a2):Bw n (a0,a1,a2) =
 bif decide (0+a0.2.length<=4294967296) then
  (l6 (a0,a2)).bind fun r0=>
  (j_ ((r0.1.1,r0.1.2.1),a1.1)).bind fun r1=>
  bnd r0.1.2.1.length r1.1 fun n2=>
  r0.1.2.1[n2]?.bind fun y3=>
  (iD y3).bind fun r4=>
  (j_ ((r0.1.1,r0.1.2.1),a1.2)).bind fun r5=>
  bnd r0.1.2.1.length r5.1 fun n6=>
  r0.1.2.1[n6]?.bind fun y7=>
  (iD y7).bind fun r8=>
  (bif decide ((r8.1.length:Int)<(r4.1.length:Int)) then
   some r8.1
   else some r4.1:Option ((List Int))).bind fun x9=>
  (bif decide ((4:Int)<(IntKind.wrap .i64 (a2+(1:Int)))) then
   some (4:Int)
   else some (IntKind.wrap .i64 (a2+(1:Int))):Option (Int)).bind fun x10=>
  (aO n (X:=(List gU) × Int) (B:=(List gU)) (fun self12 x11=>
   bif decide (x11.2<(x11.1.length:Int)) then
    ((bnd x11.1.length x11.2 fun n13=>
     x11.1[n13]?.bind fun y14=>
     bif y14.2.2.2 then
      bnd x11.1.length x11.2 fun n15=>
      x11.1[n15]?.bind fun y16=>
      bif decide (y16.2.2.1=a2) then
       bnd x11.1.length x11.2 fun n17=>
       x11.1[n17]?.bind fun y18=>
       (g_ (x9,y18.1)).bind fun r19=>
       some r19.1
      else some false
     else some false:Option (Bool)).bind fun x20=>
     bif x20 then
      bnd x11.1.length x11.2 fun n21=>
      x11.1[n21]?.bind fun y22=>
      some (x11.1.set n21 (y22.1,y22.2.1,x10,y22.2.2.2))
     else some x11.1:Option ((List gU))).bind fun x23=>
    self12 (x23,IntKind.wrap .i64 (x11.2+(1:Int)))
   else some x11.1) ([]++a0.2,(0:Int)):Option ((List gU))).bind fun x24=>
  (aO n (X:=(List gU) × Int) (B:=((List gU)) ⊕ ((List gU) × Int)) (fun self26 x25=>
   bif decide (x25.2<(x25.1.length:Int)) then
    (bnd x25.1.length x25.2 fun n27=>
     x25.1[n27]?.bind fun y28=>
     (g_ (x9,y28.1)).bind fun r29=>
     bnd x25.1.length x25.2 fun n30=>
     x25.1[n30]?.bind fun y31=>
     (g_ (x9,y31.2.1)).bind fun r32=>
     (bnd a0.2.length x25.2 fun n33=>
      a0.2[n33]?.bind fun y34=>
      bif y34.2.2.2 then
       some true
      else bnd a0.2.length x25.2 fun n35=>
      a0.2[n35]?.bind fun y36=>
      bif !decide (y36.2.2.1=a2) then
       some true
      else bif !r29.1 then
       some !r32.1
      else some false:Option (Bool)).bind fun x37=>
     bif x37 then
      some (Sum.inl x25.1)
     else (bif r29.1 then
      some r32.1
      else some false:Option (Bool)).bind fun x38=>
     bif x38 then
      bnd x25.1.length x25.2 fun n39=>
      x25.1[n39]?.bind fun y40=>
      some (Sum.inl (x25.1.set n39 (y40.1,y40.2.1,x10,y40.2.2.2)))
     else bnd x25.1.length x25.2 fun n41=>
     x25.1[n41]?.bind fun y42=>
     some (Sum.inr (x25.1.set n41 (y42.1,y42.2.1,y42.2.2.1,true),x25.2)):Option (((List gU)) ⊕ ((List gU) × Int))).bind fun y=>match y with
    | .inl x43=>
     self26 (x43,IntKind.wrap .i64 (x25.2+(1:Int)))
    | .inr x43=>
     some (Sum.inr (x43.1,x43.2))
   else some (Sum.inl x25.1)) (x24,(0:Int)):Option (((List gU)) ⊕ ((List gU) × Int))).bind fun y=>match y with
  | .inl x44=>
   some ((x44,(-1:Int)),())
  | .inr x44=>
   some (x44,())
 else none:=by kernel_rfl
def Jd:TC:=
 (zS [dG 2 0,dG 3 1,zBB 4 1000000005,KS 5 1000000006,bf 6,bf 7] (zQ (.seq (.join [⟨23,[.b],false⟩] 16760832 none (zR [QB 14 2 2 180,oF 16 15,KR 18 2 2 3,Ms 123 18 19 19 3,KR 20 3 2 3,yY 129 19 20 21 21 3,uK 22 21 3 17])) (zC 23 (zS [zBC 24,zHk 25,fZ 4 24 4 24,gN 5 5 25,zHm,bf 7] .ret) .skip)) (zS [bP 26 2 0,[o1 28 (.build eX [(0,.t 27)])],zBB 8 1000000009,fZ 8 28 8 28] (zS [[o1 29 (.build kJ [])],zGq 9 1000000010,gN 9 9 29] (zQ (.join [⟨9,kJ,false⟩,⟨8,eX,false⟩] 4722366482868571473664 none (zS [bn 10] (.block 0 (.loop [⟨9,kJ,false⟩,⟨8,eX,false⟩,⟨10,[.i .i64],false⟩] 4722366482868571473664 (zQ (zS [Uo 30 10 2 1 33] (zC 34 .skip (.exit 0))) (zQ (.join [⟨9,kJ,false⟩,⟨8,eX,false⟩] 4722366482732206260992 none (.block 1 (zQ (.join [⟨56,[.b],false⟩] 144115050636902400 none (zR [af 39 10,bP 37 2 1,Un 40 38 39 4,bP 43 3 0,yX 45 42 44,AO 46 45 9 2 1 9,fq 49 10 9,CZ 50 48 49 9,xg 51 50 9,zHd 52 48 4 1 51 9,AA 53 9 3 1 9,Qp 55 52 54 9,oZ 46 55 56])) (zC 56 (zR [bP 57 2 1,Uq 59 10 58 4 4,gN 9 9 61]) (zR [af 66 10,uM 62 8 1,bP 64 2 1,Qu 67 65 66 4 4,zHe 69 68,Mq 63 63 69 70 63 63 8 70,iX 71,F5 8 70 63 8 1 71 70]))))) (zR [Mw 35 10]))))))) (zQ (zS [bP 72 9 3,h_ 74 73] (zC 74 (zS [mH 75 8 2,zHk 76,zBz 75 4 75 4 75 75 8,gN 5 5 76,zHm,fI 7] .ret) .skip)) (zQ (.join [⟨8,eX,false⟩,⟨4,eX,false⟩,⟨5,[.i .i64,.i .i64],false⟩] 81129638263490954243960358320624 (some [⟨4,eX,false⟩,⟨5,[.i .i64,.i .i64],false⟩,⟨6,[.b],false⟩,⟨7,[.b],false⟩]) (zS [[⟨false,[],[3000008001],.det 1 (.idx .nil),[77,8],(some 77),none⟩],qN 78 9 2 77,af 11 78] (.block 2 (.loop [⟨8,eX,false⟩,⟨4,eX,false⟩,⟨5,[.i .i64,.i .i64],false⟩,⟨11,[.i .i64],false⟩] 81129637810143771888474417805808 (zQ (zS [af 79 11,[o1 80 (.data (.bin .geq) [.t 79,kD 0])]] (zC 80 .skip (.exit 2))) (zQ (.block 3 (zS [dY 84 8 2,dY 85 3 2,af 86 11,zGf 87 185 84 85 86,Yz 87 83 87 1,gW 89 83 1,bK 88 12 88,af 13 89] (zS [zGt 12 12 90 12 90,jX 91 8 8 1 90] (zS [af 92 13,[o1 93 (.data (.bin .geq) [.t 92,kD 0])]] (zC 93 (zS [pq 95 12,pq 100 12,dY 94 8 2,zGk 4 95 96 97 97,zHn 97 98 98,zGm 4 95 4 0 98 1 99 99,zGk 4 100 101 102 102,zHn 102 103 103,zGm 4 100 4 1 103 1 104 104,[⟨false,[],[4],.det 1 (.build [.i .i64,.i .i64] [(0,.t 99),(1,.t 104)]),[105],(some 105),none⟩],gN 4 4 94,gN 5 5 105,fI 6,fI 7] .ret) .skip))))) (zR [af 81 11,F6 82 81,af 11 82]))))))) (zS [dY 106 8 2,zHk 107,gN 4 4 106,gN 5 5 107,bf 6,fI 7] .ret))))))))
def U4:aI:=⟨[.rd true Yv,.rd true [.d,.d]],(.tup [(true,2),(true,2),(false,1),(false,1)] [.d,.sl (.ro []) [.d,.d,.d,.d],.d,.d,.d,.d])⟩
def Je:aJ:=aA [(180,Bi),(123,tF),(129,zD),(185,NF)]
def Jf (n:Nat):gZ × aV->Option ((Int × List gU × Int × Int × Bool × Bool) × Unit):=aB n Je Jd [eX,[.i .i64,.i .i64]] [.i .i64,.sl kJ,.i .i64,.i .i64,.b,.b] [] [4,5,6,7] .no
def jh:=Jf BIG
def U5:TSp:=⟨U4,[eX,[.i .i64,.i .i64]],[.i .i64,.sl kJ,.i .i64,.i .i64,.b,.b],[],Ou.j .no,jh⟩
theorem ahv:aL PG Je 122 U4 (Jd.ht 108) .no=some (Jd.wc Je,[4,5,6,7]):=by kernel_rfl
theorem adR:U5.Ok PG 122:=aM (ae Dp (ae wI (ae EL (ae Zp (ak PG))))) ahv (by kernel_rfl)
theorem ahw (n) (a0) (a1):Jf n (a0,a1) = ((vG a0).bind fun r0=> bif !r0.1 then some true else (jg a0).bind fun r1=> (tO (r1.1,a1)).bind fun r2=> some !r2.1:Option (Bool)).bind fun x3=> bif x3 then some (((0:Int),[],(0:Int),(0:Int),false,false),()) else (aO n (X:=gU × gZ × Int) (B:=gU × gZ) (fun self5 x4=> bif decide (x4.2.2<(a0.2.length:Int)) then ((bnd a0.2.length x4.2.2 fun n6=> a0.2[n6]?.bind fun y7=> bif decide (y7.1=a1.1) then bnd a0.2.length x4.2.2 fun n8=> a0.2[n8]?.bind fun y9=> some (decide (y9.2.1=a1.2)) else some false:Option (Bool)).bind fun x10=> bif x10 then bnd a0.2.length x4.2.2 fun n11=> a0.2[n11]?.bind fun y12=> some (y12,x4.2.1) else bnd a0.2.length x4.2.2 fun n13=> a0.2[n13]?.bind fun y14=> bif decide (x4.2.1.2.length+[y14].length<=4294967296) then some (x4.1,(x4.2.1.1,x4.2.1.2++[y14])) else none:Option (gU × gZ)).bind fun x15=> self5 (x15.1,x15.2,IntKind.wrap .i64 (x4.2.2+(1:Int))) else some (x4.1,x4.2.1)) (((0:Int),(0:Int),(0:Int),false),(a0.1,[]),(0:Int)):Option (gU × gZ)).bind fun x16=> bif !x16.1.2.2.2 then some ((x16.2.1,x16.2.2,(0:Int),(0:Int),false,true),()) else (aO n (X:=gZ × gZ × aV × Int) (B:=(gZ × gZ × aV) ⊕ (gZ × aV × Bool × Bool)) (fun self18 x17=> bif decide ((0:Int)<=x17.2.2.2) then (nG (x17.1,a1,x17.2.2.2)).bind fun r19=> bif decide ((0:Int)<=r19.1.2) then bnd r19.1.1.length r19.1.2 fun n20=> r19.1.1[n20]?.bind fun y21=> bnd r19.1.1.length r19.1.2 fun n22=> r19.1.1[n22]?.bind fun y23=> some (Sum.inr ((x17.1.1,r19.1.1),(y21.1,y23.2.1),true,true)) else self18 ((x17.1.1,r19.1.1),x17.2.1,x17.2.2.1,IntKind.wrap .i64 (x17.2.2.2-(1:Int))) else some (Sum.inl (x17.1,x17.2.1,x17.2.2.1))) (x16.2,((0:Int),[]),((0:Int),(0:Int)),x16.1.2.2.1):Option ((gZ × gZ × aV) ⊕ (gZ × aV × Bool × Bool))).bind fun y=>match y with | .inl x24=> some ((x24.1.1,x24.1.2,(0:Int),(0:Int),false,true),()) | .inr x24=> some ((x24.1.1,x24.1.2,x24.2.1.1,x24.2.1.2,x24.2.2),()):=by kernel_rfl
def Xi:TC:=
 (zS [dG 2 0,dG 3 1,zBD 4 1000000005,Qt 5 1000000006,bn 6] (zQ (.seq (.join [⟨45,[.b],false⟩] 70368743915520 none (zR [QB 18 2 7 118,oF 20 19,rX 22 3,KU 23 22 3,Az 24 2 1 23 3,KR 25 3 4 3,yY 119 24 25 26 26 3,kM 27 26 3 21,pu 30 11 3 0,zLd 32 11,Az 34 2 3 33 11,zEd 35 31 34 11,dH 36 35 11,C8 37 18 3 0,jJ 39 18,xg 40 39 18,lN 41 2 3 40 18,zEu 42 41 1 18,zEq 43 38 42 18,KZ 36 43 44 44 11 29])) (zC 45 (zS [[o1 46 (.build yS [])],zGD 47,fZ 4 46 4 46,fZ 5 47 5 47,mI 6 1] .ret) .skip)) (zQ (zS [bP 48 3 0,yZ 50,qN 52 2 3 51,yX 53 49 52] (zC 53 (zS [QB 54 2 7 115,K3 56 2 3 4,ib 58 120 57,fZ 4 55 4 55,fZ 5 58 5 58,bn 6] .ret) .skip)) (zS [bP 59 3 0,[o5 (.build dx [(0,.t 60),(1,.c [.b] [.bool true])]) 61 1000000002],Qt 7 1000000008,fZ 7 61 7 61] (zS [[⟨false,[],[3000002002],.det 1 (.idx .nil),[62,2,50,51],(some 62),none⟩],Yw 63 2 1 62 2,zBB 8 1000000009,gN 8 8 63] (zQ (.join [⟨8,eX,false⟩,⟨7,dx,false⟩] 1461501637330902918203684832697836275582223253376 none (zS [bP 64 3 1] (.block 0 (zQ (.join [⟨66,[.b],false⟩] 516508834063867445248 none (zS [C_ 67 65 1] (zC 66 .skip (zR [C_ 68 65 4])))) (zC 66 (zS [bn 9] (.block 1 (.loop [⟨8,eX,false⟩,⟨7,dx,false⟩,⟨9,[.i .i64],false⟩] 19807040038270274039680339840 (zQ (zS [Uo 69 9 3 2 72] (zC 73 .skip (.exit 1))) (zQ (.join [⟨8,eX,false⟩,⟨7,dx,false⟩] 19806965070702358484062571904 none (.block 2 (zS [af 80 9,zGh 1000000011 8 2 77 77,zJD 1000000011 78 78 2,zGk 1000000011 79 80 81 81,zGm 1000000011 79 2 0 81 2 82 82,zHf 1000000011 121 77 82 83 83,zHg 1000000011 2 83 76 83 76,zHh 1000000011 76 84 76 84,zHi 1000000011 76 85 85,zBB 10 1000000011,AC 10 84 10 84] (zQ (.join [⟨8,eX,false⟩] 232113757366008801543587072 none (zS [af 86 11] (zC 86 (zR [[⟨false,[],[3000010001],.det 1 (.load 10 [] 0 .nil 2 false),[87,10],(some 87),none⟩],gN 8 8 87]) .skip))) (.join [⟨7,dx,false⟩] 19497555618744739329661206656 none (zR [bP 88 7 1,Ga 90 89 11 2,oZ 90 91 92,jX 93 7 7 1 92])))))) (zR [eu 74 9 9])))))) (zS [jq 95 65 2 94] (zC 94 (zS [zHo 1000000013 1000000014 8 2 97 97,[⟨false,[],[1000000013,1000000014],.det 1 (.idx .nil),[98],(some 98),none⟩,⟨false,[],[1000000013,1000000014],.det 1 (.load 3 [] 2 (.t 98) 1 false),[99],(some 99),none⟩,⟨false,[],[1000000013,1000000014],.det 1 (.index 99 (kD 0)),[100],(some 100),none⟩,⟨false,[],[1000000013,1000000014],.det 1 (.load 99 [(0,2)] 0 (.t 100) 2 false),[101],(some 101),none⟩],zHp 1000000013 1000000014 122 97 101 102 102,zHq 1000000013 1000000014 102 96 102 96,zHr 1000000013 1000000014 96 0 2 103 103,zHr 1000000013 1000000014 96 2 2 104 104,zHr 1000000013 1000000014 96 4 1 105 105,zHr 1000000013 1000000014 96 5 1 106 106,[⟨false,[],[1000000014],.det 2 (.a (.c eX [kV 0,.slice none 0 0])),[12,1000000013],(some 12),none⟩,⟨false,[],[1000000013],.det 2 (.a (.c [.i .i64,.i .i64] [kV 0,kV 0])),[13,1000000014],(some 13),none⟩],gN 12 12 103,gN 13 13 104,pq 14 105] (zQ (.join [⟨8,eX,false⟩] 486777830487640090174734030864640 none (zS [af 107 15] (zC 107 (zR [dY 108 12 2,gN 8 8 108]) .skip))) (zR [af 109 15,jX 110 7 7 1 109]))) (zS [jq 112 65 3 111] (zC 111 (zS [QB 113 8 2 123,zHs 114 1 1 115 114,bK 115 16 115] (zS [bn 17] (.block 3 (.loop [⟨8,eX,false⟩,⟨7,dx,false⟩,⟨17,[.i .i64],false⟩] 1461501637330819841453948275474226531714665152896 (zQ (zS [af 116 17,fV 117 16,rY 118 117 116] (zC 119 .skip (.exit 3))) (zQ (.join [⟨8,eX,false⟩,⟨7,dx,false⟩] 1461501637325586006220545169224667791414811165056 none (.block 4 (zQ (.join [⟨139,[.b],false⟩] 1393791257996180806682490776812281472745472 none (zR [fV 122 16,af 123 17,Um 124 122 123,Ay 126 16 2 125,bP 127 3 3,yX 129 126 128,af 130 129,[⟨true,[],[],.det 1 (.copy 16),[131],(some 131),some (8,false)⟩],dH 132 17 8,Ug 133 131 132 8,KU 134 133 8,[o2 135 (.load 16 [(0,2)] 1 (.t 134) 1 false) 8 false],oD 136 8 3 3 8,zDw 138 135 137 8,uJ 130 138 139])) (zC 139 (zS [fV 142 16,af 143 17,dY 141 8 2,iW 144 142 143,zDy 145 16 2 144 2,Qv 146 122 141 145 140,[o1 147 (.ext 140 0 2),o1 148 (.ext 140 2 2)],zJh 149 140 4 5,gN 8 8 147] (zR [fV 153 16,af 154 17,uM 151 7 2,iW 155 153 154,zDy 156 16 2 155 2,zEB 157 156,Mq 152 152 157 158 152 152 7 158,iX 159,F5 7 158 152 7 2 159 158])) .skip)))) (zR [Mw 120 17]))))))) .skip))))))))) (zS [QB 160 8 2 124,uO 162 7 161 7 3 161] (zS [bP 163 2 0,dY 165 8 2,mH 166 7 4,[o1 167 (.build yS [(0,.t 164),(1,.t 165),(3,.t 166)])],ib 168 115 167,mH 169 7 4,ib 170 120 169,fZ 4 168 4 168,fZ 5 170 5 170,bn 6] .ret))))))))
def afB:aI:=⟨[.rd true Ct3,.rd true Aw],(.tup [(true,7),(true,4),(false,1)] [.d,.d,.sl (.own none) [.d,.d,.d,.d],.d,.d,.sl (.own none) [.d,.d],.sl (.own none) [.d],.d,.d,.sl (.own none) [.d,.d],.sl (.own none) [.d],.d])⟩
def Xj:aJ:=aA [(118,UY),(119,zw),(115,U0),(120,lD),(121,YS),(122,U5),(123,tF),(124,Br)]
def Xk (n:Nat):Zt8 × kP->Option ((Int × Int × List gU × Int × Bool × List aV × List Int × Int × Bool × List aV × List Int × Int) × Unit):=aB n Xj Xi [yS,dP] [.i .i64,.i .i64,.sl kJ,.i .i64,.b,.sl [.i .i64,.i .i64],.sl [.i .i64],.i .i64,.b,.sl [.i .i64,.i .i64],.sl [.i .i64],.i .i64] [] [4,5,6] .no
def qY:=Xk BIG
def afC:TSp:=⟨afB,[yS,dP],[.i .i64,.i .i64,.sl kJ,.i .i64,.b,.sl [.i .i64,.i .i64],.sl [.i .i64],.i .i64,.b,.sl [.i .i64,.i .i64],.sl [.i .i64],.i .i64],[],Ou.j .no,qY⟩
theorem aox:aL PG Xj 40 afB (Xi.ht 171) .no=some (Xi.wc Xj,[4,5,6]):=by kernel_rfl
theorem al7:afC.Ok PG 40:=aM (ae adO (ae Em (ae adP (ae oI (ae ahu (ae adR (ae wI (ae K7 (ak PG))))))))) aox (by kernel_rfl)
theorem aoy (n) (a0) (a1):Xk n (a0,a1) = ((zB a0).bind fun r0=> bif !r0.1 then some true else (tq (a0.2.1,a1)).bind fun r1=> bif !r1.1 then some true else bif !decide (a1.1=a0.2.2.2.1) then some (!decide (a1.1=(IntKind.wrap .i64 (a0.2.2.2.1+(1:Int))))) else some false:Option (Bool)).bind fun x2=> bif x2 then some (((0:Int),(0:Int),[],(0:Int),false,[],[],(0:Int),false,[],[],(1:Int)),()) else bif decide (a1.1=a0.2.2.2.1) then (tN a0).bind fun r3=> (gM a0.2.2.2).bind fun r4=> some ((r3.1.1,r3.1.2.1,r3.1.2.2.1,r3.1.2.2.2.1,r3.1.2.2.2.2.1,r3.1.2.2.2.2.2.1,r3.1.2.2.2.2.2.2,r4.1.1,r4.1.2.1,r4.1.2.2.1,r4.1.2.2.2,(0:Int)),()) else ((bif decide (a1.2.1=(1:Int)) then some true else some (decide (a1.2.1=(4:Int))):Option (Bool)).bind fun x5=> bif x5 then aO n (X:=gZ × gT × Int) (B:=gZ × gT) (fun self7 x6=> bif decide (x6.2.2<(a1.2.2.1.length:Int)) then (bnd a1.2.2.1.length x6.2.2 fun n8=> a1.2.2.1[n8]?.bind fun y9=> (qX (x6.1,y9)).bind fun r10=> (bif r10.1.2.2 then some (r10.1.1,r10.1.2.1) else some x6.1:Option (gZ)).bind fun x11=> (bif x6.2.1.2.1 then some (x6.2.1.1,r10.1.2.2,x6.2.1.2.2) else some (x6.2.1.1,false,x6.2.1.2.2):Option (gT)).bind fun x12=> some (x11,x12):Option (gZ × gT)).bind fun x13=> self7 (x13.1,x13.2,IntKind.wrap .i64 (x6.2.2+(1:Int))) else some (x6.1,x6.2.1)) ((a0.2.1,a0.2.2.1),(a1.1,true,[],[]),(0:Int)) else bif decide (a1.2.1=(2:Int)) then bnd a1.2.2.1.length (0:Int) fun n14=> a1.2.2.1[n14]?.bind fun y15=> (jh ((a0.2.1,a0.2.2.1),y15)).bind fun r16=> (bif r16.1.2.2.2.2.2 then some (r16.1.1,r16.1.2.1) else some (a0.2.1,a0.2.2.1):Option (gZ)).bind fun x17=> some (x17,(a1.1,r16.1.2.2.2.2.2,[],[])) else bif decide (a1.2.1=(3:Int)) then (jg (a0.2.1,a0.2.2.1)).bind fun r18=> aO n (X:=gZ × gT × Int) (B:=gZ × gT) (fun self20 x19=> bif decide (x19.2.2<(r18.1.2.length:Int)) then ((bnd r18.1.2.length x19.2.2 fun n21=> r18.1.2[n21]?.bind fun y22=> bif decide (y22.1=a1.2.2.2) then some true else bnd r18.1.2.length x19.2.2 fun n23=> r18.1.2[n23]?.bind fun y24=> some (decide (y24.2=a1.2.2.2)):Option (Bool)).bind fun x25=> bif x25 then bnd r18.1.2.length x19.2.2 fun n26=> r18.1.2[n26]?.bind fun y27=> (jh (x19.1,y27)).bind fun r28=> bnd r18.1.2.length x19.2.2 fun n29=> r18.1.2[n29]?.bind fun y30=> bif decide (x19.2.1.2.2.1.length+[y30].length<=4294967296) then some ((r28.1.1,r28.1.2.1),(x19.2.1.1,x19.2.1.2.1,x19.2.1.2.2.1++[y30],x19.2.1.2.2.2)) else none else some (x19.1,x19.2.1):Option (gZ × gT)).bind fun x31=> self20 (x31.1,x31.2,IntKind.wrap .i64 (x19.2.2+(1:Int))) else some (x19.1,x19.2.1)) ((a0.2.1,a0.2.2.1),(a1.1,true,[],[]),(0:Int)) else some ((a0.2.1,a0.2.2.1),(a1.1,true,[],[])):Option (gZ × gT)).bind fun x32=> (nE x32.1).bind fun r33=> (tN (a0.1,x32.1.1,x32.1.2,x32.2.1,x32.2.2.1,x32.2.2.2.1,r33.1)).bind fun r34=> (gM (x32.2.1,x32.2.2.1,x32.2.2.2.1,r33.1)).bind fun r35=> some ((r34.1.1,r34.1.2.1,r34.1.2.2.1,r34.1.2.2.2.1,r34.1.2.2.2.2.1,r34.1.2.2.2.2.2.1,r34.1.2.2.2.2.2.2,r35.1.1,r35.1.2.1,r35.1.2.2.1,r35.1.2.2.2,(0:Int)),()):=by kernel_rfl
def EM:TC:=
 (zS [dG 4 1] (zS [bH 6,bH 7,af 14 2,qM 8 7,yU 9 8,zBt 10 0 14 9,bP 11 4 0,dY 13 4 4,zEz,[o1 16 (.sli R9 [.t 15])],Mq 10 10 16 17 10 10 0 17,nz 18 6,F5 0 17 10 0 14 19 17] (zR [bH 20,[o1 21 (.build Ty8 [])],nz 22 20,Qm 0 21 0 5 23 21])))
def QV:aI:=⟨[.mp [.d,.sl (.own none) [.d],.sl (.ro []) [.d,.d],.sl (.own none) gK,.sl (.own none) [.d],.d,.d,.d,.d,.d,.d,.d,.sl (.own none) [.d,.d],.d,.sl (.own none) alY],.rd true [.d,.d,.d,.d],.rd false [.d]],.u⟩
def EN:aJ:=aA []
def EO (n:Nat):jY × r_ × Int->Option ((Unit) × Int × List Int × List aV × List (List Int) × List Int × Int × Int × Int × Int × Int × Int × Int × List aV × Int × List R_):=aB n EN EM [dO,gy,[.i .i64]] [] dO [] (.mp 0)
def wL:=EO BIG
def QW:TSp:=⟨QV,[dO,gy,[.i .i64]],[],dO,Ou.j (.mp 0),wL⟩
theorem adS:aL PG EN 55 QV (EM.ht 24) (.mp 0)=some (EM.wc EN,[]):=by kernel_rfl
theorem ab1:QW.Ok PG 55:=aM (ak PG) adS (by kernel_rfl)
theorem adT (n) (a0) (a1) (a2):EO n (a0,a1,a2) = bif decide (a0.2.2.2.2.2.2.2.2.2.2.2.2.2.2.length+([(a1.1,a1.1,a1.2.1,a1.2.2.1,a1.2.2.2,a2)]).length<=4294967296) then some ((),(a0.1,a0.2.1,a0.2.2.1,a0.2.2.2.1,a0.2.2.2.2.1,(0:Int),(0:Int),(0:Int),(0:Int),(0:Int),(0:Int),(0:Int),[],(0:Int),a0.2.2.2.2.2.2.2.2.2.2.2.2.2.2++([(a1.1,a1.1,a1.2.1,a1.2.2.1,a1.2.2.2,a2)]))) else none:=by kernel_rfl
def NG:TC:=
 (zS [zGb 6] (zS [Qk 10,bK 10 7 10] (zQ (.join [⟨7,[.sl [.i .i64,.i .i64]],false⟩] 144115188075854720 none (zS [bn 8] (.block 0 (.loop [⟨7,[.sl [.i .i64,.i .i64]],false⟩,⟨8,[.i .i64],false⟩] 144115188075854720 (zQ (zS [F8 11 8 1] (zC 14 .skip (.exit 0))) (zQ (.join [⟨7,[.sl [.i .i64,.i .i64]],false⟩] 144115188075725440 none (.block 1 (zS [Qz 17 1 8 2 2,KS 9 1000000010,gN 9 9 20] (zQ (.join [⟨52,[.b],false⟩] 9007199252643840 none (zR [bP 21 9 0,af 23 0,kX 24 23,F6 25 24,Yx 26 42 22 25,AO 27 26 6 9 1 6,fq 30 0 6,zGx 31 30 6,zLc 32 31 6 42 29 6,ic 27 33 34,fq 36 0 14,C8 37 14 9 0,CZ 39 36 38 14,Uh 40 36 1 39 14,fq 41 2 14,Qp 42 40 41 14,ic 35 42 43,fq 45 0 23,C8 46 23 9 1,CZ 48 45 47 23,Uh 49 45 1 48 23,fq 50 2 23,Qp 51 49 50 23,oZ 44 51 52])) (zC 52 (zR [bK 7 53 7,dY 54 9 2,QC 55 54 53 53 7]) .skip))))) (zR [eu 15 8 8]))))))) (zS [AB 7 57 7 6] .ret))))
def YT:aI:=⟨[.rd false gK,.rd false ny,.rd false [.d]],(.one false ny)⟩
def NH:aJ:=aA [(42,dz)]
def NI (n:Nat):List Int × (List aV) × Int->Option ((List aV) × Unit):=aB n NH NG [[.sl [.i .i64]],[.sl [.i .i64,.i .i64]],[.i .i64]] [.sl [.i .i64,.i .i64]] [] [6] .no
def NJ:=NI BIG
def YU:TSp:=⟨YT,[[.sl [.i .i64]],[.sl [.i .i64,.i .i64]],[.i .i64]],[.sl [.i .i64,.i .i64]],[],Ou.j .no,NJ⟩
theorem ake:aL PG NH 163 YT (NG.ht 58) .no=some (NG.wc NH,[6]):=by kernel_rfl
theorem ahx:YU.Ok PG 163:=aM (ae cB (ak PG)) ake (by kernel_rfl)
theorem akf (n) (a0) (a1) (a2):NI n (a0,a1,a2) = (aO n (X:=(List aV) × Int) (B:=(List aV)) (fun self1 x0=> bif decide (x0.2<(a1.length:Int)) then (bnd a1.length x0.2 fun n2=> a1[n2]?.bind fun y3=> ((a_ (y3.1,(0:Int),IntKind.wrap .i64 ((a0.length:Int)-(1:Int)))).bind fun r4=> bif r4.1 then (a_ (y3.2,(0:Int),IntKind.wrap .i64 ((a0.length:Int)-(1:Int)))).bind fun r5=> bif r5.1 then bnd a0.length y3.1 fun n6=> a0[n6]?.bind fun y7=> bif decide (y7=a2) then bnd a0.length y3.2 fun n8=> a0[n8]?.bind fun y9=> some (decide (y9=a2)) else some false else some false else some false:Option (Bool)).bind fun x10=> bif x10 then bif decide (x0.1.length+[y3].length<=4294967296) then some (x0.1++[y3]) else none else some x0.1:Option ((List aV))).bind fun x11=> self1 (x11,IntKind.wrap .i64 (x0.2+(1:Int))) else some x0.1) ([],(0:Int)):Option ((List aV))).bind fun x12=> some (x12,()):=by kernel_rfl
def Bz:TC:=
 (zS [dG 5 1,[o5 (.a (.t 3)) 7 3],bn 8] (zS [bH 9,QD 10 9 0 4,af 13 2,F6 14 13,iW 15 12 14,Uj 16 0 4 1 15,yT 17 16,jX 18 7 7 0 17] (zS [bH 19,dY 20 5 4,Gb 21 2 7 4,zED,nz 24 19,zEE 0 23 12 15 0 5 25 23] (zS [mI 8 2] .ret))))
def NK:aI:=⟨[.mp [.d,.sl (.own none) [.d],.sl (.ro []) [.d,.d],.sl (.own none) gK,.sl (.own none) [.d],.d,.d,.d,.d,.d,.d,.d,.sl (.own none) [.d,.d],.d,.sl (.own none) alY],.rd true [.d,.d,.d,.d],.rd false [.d],.tk true Aw],(.one false [.d])⟩
def BB:aJ:=aA []
def BC (n:Nat):jY × r_ × Int × kP->Option ((Int) × Int × List Int × List aV × List (List Int) × List Int × Int × Int × Int × Int × Int × Int × Int × List aV × Int × List R_):=aB n BB Bz [dO,gy,[.i .i64],dP] [.i .i64] dO [8] (.mp 0)
def BD:=BC BIG
def NL:TSp:=⟨NK,[dO,gy,[.i .i64],dP],[.i .i64],dO,Ou.j (.mp 0),BD⟩
theorem ab2:aL PG BB 57 NK (Bz.ht 26) (.mp 0)=some (Bz.wc BB,[8]):=by kernel_rfl
theorem Zq:NL.Ok PG 57:=aM (ak PG) ab2 (by kernel_rfl)
theorem ab3 (n) (a0) (a1) (a2) (a3):BC n (a0,a1,a2,a3) = bnd a0.2.2.2.2.1.length (IntKind.wrap .i64 (a2-(1:Int))) fun n0=> a0.2.2.2.2.1[n0]?.bind fun y1=> some ((2:Int),(a0.1,a0.2.1,a0.2.2.1,a0.2.2.2.1,a0.2.2.2.2.1,a1.1,a1.2.1,a1.2.2.1,a1.2.2.2,a2,IntKind.wrap .i64 (y1+(1:Int)),a3.2.1,a3.2.2.1,a3.2.2.2,a0.2.2.2.2.2.2.2.2.2.2.2.2.2.2)):=by kernel_rfl
def EP:TC:=
 (zS [dG 4 1,bn 6] (zS [bH 11,mK 12 11 0 2,af 7 14] (zQ (.join [⟨0,dO,false⟩,⟨7,[.sl [.i .i64,.i .i64]],false⟩] 68719444417 (some [⟨6,[.i .i64],false⟩,⟨0,dO,false⟩]) (zS [bn 8] (.block 0 (.loop [⟨0,dO,false⟩,⟨7,[.sl [.i .i64,.i .i64]],false⟩,⟨8,[.i .i64],false⟩] 68719444417 (zQ (zS [F8 15 8 2] (zC 18 .skip (.exit 0))) (zQ (.block 1 (zQ (zS [bM 21 7 2,Uq 23 8 22 2 2,kZ 26 143 21 25] (zC 26 (zS [bH 27,dY 28 4 4,zGd 0 28 3 29 0 29] (zS [mI 6 1] .ret)) .skip)) (zR [bM 30 7 2,Uq 32 8 31 2 2,kZ 35 130 30 34,zHt 35 35 35]))) (zR [eu 19 8 8]))))))) (zS [bH 36,QD 37 36 0 1,Gc 40 4 2 4 3,iW 44 39 41,zBi 0 39 0 1 44 43] (zS [bH 45,af 49 7,QD 46 45 0 1,bP 50 4 3,zGf 52 163 48 49 51,bK 52 9 52] (zQ (.join [⟨7,[.sl [.i .i64,.i .i64]],false⟩] 36884480948164363392 none (zS [bn 10] (.block 2 (.loop [⟨7,[.sl [.i .i64,.i .i64]],false⟩,⟨10,[.i .i64],false⟩] 36884480948164363392 (zQ (zS [af 53 10,fV 54 9,rY 55 54 53] (zC 56 .skip (.exit 2))) (zQ (.block 3 (zR [af 59 7,fV 60 9,af 61 10,iW 62 60 61,zDy 63 9 2 62 2,kZ 64 131 59 63,zHt 64 64 64])) (zR [Mw 57 10]))))))) (zS [qQ 65 7,nz 67 65,[o4 1 [0,44,48] (.store 0 [] 2 (.t 68) (.t 66))]] (zQ (zS [fV 69 9,kX 70 69,pg 71 70 0] (zC 71 (zS [bH 72,dY 73 4 4,zGd 0 73 1 74 0 74] (zS [mI 6 1] .ret)) .skip)) (zS [bH 75,dY 76 4 4,bP 77 4 3,[⟨false,[],[],.det 2 (.copy 9),[79,9,54,69],(some 79),none⟩,⟨false,[],[],.det 3 (.build dP [(1,kO 4),(2,.t 79)]),[80,1000000002,79],(some 80),none⟩],zGn 0 76 78 80 81 0 80 81,af 6 81] .ret)))))))))
def QY:aI:=⟨[.mp [.d,.sl (.own none) [.d],.sl (.ro []) [.d,.d],.sl (.own none) gK,.sl (.own none) [.d],.d,.d,.d,.d,.d,.d,.d,.sl (.own none) [.d,.d],.d,.sl (.own none) alY],.rd true [.d,.d,.d,.d],.rd false ny],(.one false [.d])⟩
def EQ:aJ:=aA [(143,qU),(55,QW),(130,qV),(163,YU),(131,xU),(57,NL)]
def ER (n:Nat):jY × r_ × (List aV)->Option ((Int) × Int × List Int × List aV × List (List Int) × List Int × Int × Int × Int × Int × Int × Int × Int × List aV × Int × List R_):=aB n EQ EP [dO,gy,[.sl [.i .i64,.i .i64]]] [.i .i64] dO [6] (.mp 0)
def ES:=ER BIG
def QZ:TSp:=⟨QY,[dO,gy,[.sl [.i .i64,.i .i64]]],[.i .i64],dO,Ou.j (.mp 0),ES⟩
theorem adU:aL PG EQ 81 QY (EP.ht 82) (.mp 0)=some (EP.wc EQ,[6]):=by kernel_rfl
theorem ab4:QZ.Ok PG 81:=aM (ae tu (ae ab1 (ae tC (ae ahx (ae Gg (ae Zq (ak PG))))))) adU (by kernel_rfl)
theorem adV (n) (a0) (a1) (a2):ER n (a0,a1,a2) = (aO n (X:=jY × (List aV) × Int) (B:=(jY × (List aV)) ⊕ Zt0) (fun self1 x0=> bif decide (x0.2.2<(a2.length:Int)) then bnd a2.length x0.2.2 fun n2=> a2[n2]?.bind fun y3=> (nC (x0.2.1,y3)).bind fun r4=> bif r4.1 then (wL (x0.1,a1,(3:Int))).bind fun r5=> some (Sum.inr ((1:Int),r5.2)) else bnd a2.length x0.2.2 fun n6=> a2[n6]?.bind fun y7=> (nD (x0.2.1,y7)).bind fun r8=> self1 (x0.1,r8.1,IntKind.wrap .i64 (x0.2.2+(1:Int))) else some (Sum.inl (x0.1,x0.2.1))) (a0,a0.2.2.1,(0:Int)):Option ((jY × (List aV)) ⊕ Zt0)).bind fun y=>match y with | .inl x9=> bnd x9.1.2.1.length a1.2.2.1 fun n10=> x9.1.2.1[n10]?.bind fun y11=> (NJ (x9.1.2.1.set n10 a1.2.2.2,x9.2,a1.2.2.2)).bind fun r12=> (aO n (X:=(List aV) × Int) (B:=(List aV)) (fun self14 x13=> bif decide (x13.2<(r12.1.length:Int)) then bnd r12.1.length x13.2 fun n15=> r12.1[n15]?.bind fun y16=> (pV (x13.1,y16)).bind fun r17=> self14 (r17.1,IntKind.wrap .i64 (x13.2+(1:Int))) else some x13.1) (x9.2,(0:Int)):Option ((List aV))).bind fun x18=> bif decide ((r12.1.length:Int)=(0:Int)) then (wL ((x9.1.1,x9.1.2.1.set n10 a1.2.2.2,x18,x9.1.2.2.2),a1,(1:Int))).bind fun r19=> some ((1:Int),r19.2) else (BD ((x9.1.1,x9.1.2.1.set n10 a1.2.2.2,x18,x9.1.2.2.2),a1,a1.2.2.2,((0:Int),(4:Int),r12.1,(0:Int)))).bind fun r20=> some (r20.1,r20.2) | .inr x9=> some (x9.1,x9.2):=by kernel_rfl
def Xl:TC:=
 (zS [dG 3 0,dG 5 2,Ue 6 1000000007,bn 7] (zS [QB 12 3 15 51,Ue 8 1000000009,fZ 8 13 8 13] (zQ (.seq (.join [⟨44,[.b],false⟩] 35184372072448 none (zR [dY 14 3 15,ib 15 52 14,oF 16 15,oD 18 3 3 0 3,KR 20 5 4 3,yY 80 19 20 21 21 3,kM 22 21 3 17,KR 25 3 15 10,Ms 39 25 26 26 10,kM 27 26 10 24,dH 30 1 15,zLd 31 15,Az 33 3 9 32 15,F9 34 30 33 15 29,af 36 35,pu 37 22 5 0,zLd 39 22,KU 41 40 22,Az 42 3 10 41 22,F9 43 38 42 22 36])) (zC 44 (zS [uL 45 8 15 6 6 8,bn 7] .ret) .skip)) (zS [K3 46 3 5 9,zEr 9 1000000010,gN 9 9 47] (zS [uM 48 8 4,af 50 1,F6 51 50,bP 52 5 0,iW 54 49 51,zBi 8 49 8 4 54 53] (zS [af 57 1,uM 55 8 3,F6 58 57,xe 59,bP 60 5 3,xf 59 61 62 59,iW 63 56 58,[o4 2 [8,62,48,54,63,56,55] (.store 8 [(3,1)] 0 (.t 63) (.t 62))]] (zQ (.seq (.join [⟨73,[.b],false⟩] 18871019187404871303168 none (zR [yZ 64,qN 66 9 1 65,pg 67 66 4,af 68 67,jJ 69 4,xg 70 69 4,lN 71 9 6 70 4,[o2 72 (.data (.bin .eql) [.t 71,kD 3]) 4 true],oZ 68 72 73])) (zC 73 (zS [K3 74 9 0 4,bP 76 5 2,[⟨false,[],[3000008002],.call 2 81 [.t 8,.t 75,.t 77] (.mp 0),[78,8,8],(some 78),none⟩],af 10 78] (zS [mH 79 8 15,ib 80 51 79,af 81 10,AC 6 80 6 80] .ret)) .skip)) (zS [mI 11 1] (zQ (.join [⟨11,[.i .i64],false⟩] 2471044375292302033099425792 none (zQ (.join [⟨90,[.b],false⟩] 2471044375292302033099423744 none (zR [yZ 82,qN 84 9 1 83,zDe 85 84 4,AO 86 85 4 5 1 4,Qn 89 88 4,oZ 86 89 90])) (zC 90 (zR [mI 11 2]) .skip))) (zS [K3 91 9 0 4,af 93 11,zGg 55 8 92 93 94 8 94] (zS [uL 95 8 15 6 6 8,mI 7 1] .ret)))))))))))
def afD:aI:=⟨[.rd true KP,.rd false [.d],.rd true Av],(.tup [(true,15),(false,1)] Ct0)⟩
def Xm:aJ:=aA [(51,H5),(52,M4),(80,wK),(39,PS),(81,QZ),(55,Dl)]
def Xn (n:Nat):jY × Int × gT->Option (Zt1 × Unit):=aB n Xm Xl [dO,[.i .i64],dx] Ty0 [] [6,7] .no
def Gj:=Xn BIG
def afE:TSp:=⟨afD,[dO,[.i .i64],dx],Ty0,[],Ou.j .no,Gj⟩
theorem aoz:aL PG Xm 19 afD (Xl.ht 96) .no=some (Xl.wc Xm,[6,7]):=by kernel_rfl
theorem al8:afE.Ok PG 19:=aM (ae QK (ae UI (ae Bn (ae Sg (ae ab4 (ae Ih (ak PG))))))) aoz (by kernel_rfl)
theorem aoA (n) (a0) (a1) (a2):Xn n (a0,a1,a2) = (sD a0).bind fun r0=> ((Dk a0).bind fun r1=> bif !r1.1 then some true else (pG (a0.1,a2)).bind fun r2=> bif !r2.1 then some true else (Aa a0).bind fun r3=> bif !r3.1 then some true else bif !decide (a1=a0.2.2.2.2.2.2.2.2.2.1) then some true else some (!decide (a2.1=a0.2.2.2.2.2.2.2.2.2.2.1)):Option (Bool)).bind fun x4=> bif x4 then some ((r0.1.1,r0.1.2.1,r0.1.2.2.1,r0.1.2.2.2.1,r0.1.2.2.2.2.1,r0.1.2.2.2.2.2.1,r0.1.2.2.2.2.2.2.1,r0.1.2.2.2.2.2.2.2.1,r0.1.2.2.2.2.2.2.2.2.1,r0.1.2.2.2.2.2.2.2.2.2.1,r0.1.2.2.2.2.2.2.2.2.2.2.1,r0.1.2.2.2.2.2.2.2.2.2.2.2.1,r0.1.2.2.2.2.2.2.2.2.2.2.2.2.1,r0.1.2.2.2.2.2.2.2.2.2.2.2.2.2.1,r0.1.2.2.2.2.2.2.2.2.2.2.2.2.2.2,(0:Int)),()) else bnd r0.1.2.2.2.2.1.length (IntKind.wrap .i64 (a1-(1:Int))) fun n5=> r0.1.2.2.2.2.1[n5]?.bind fun y6=> bif decide (0+a2.2.2.2.length<=4294967296) then bnd r0.1.2.2.2.1.length (IntKind.wrap .i64 (a1-(1:Int))) fun n7=> r0.1.2.2.2.1[n7]?.bind fun y8=> (bif decide (a0.2.2.2.2.2.2.1=(4:Int)) then some (decide (a0.2.2.2.2.2.2.2.2.2.2.2.1=(3:Int))) else some false:Option (Bool)).bind fun x9=> bif x9 then (ES ((r0.1.1,r0.1.2.1,r0.1.2.2.1,r0.1.2.2.2.1.set n7 ([]++a2.2.2.2),r0.1.2.2.2.2.1.set n5 a2.1,r0.1.2.2.2.2.2),(a0.2.2.2.2.2.1,a0.2.2.2.2.2.2.1,a0.2.2.2.2.2.2.2.1,a0.2.2.2.2.2.2.2.2.1),a2.2.2.1)).bind fun r10=> (sD r10.2).bind fun r11=> some ((r11.1.1,r11.1.2.1,r11.1.2.2.1,r11.1.2.2.2.1,r11.1.2.2.2.2.1,r11.1.2.2.2.2.2.1,r11.1.2.2.2.2.2.2.1,r11.1.2.2.2.2.2.2.2.1,r11.1.2.2.2.2.2.2.2.2.1,r11.1.2.2.2.2.2.2.2.2.2.1,r11.1.2.2.2.2.2.2.2.2.2.2.1,r11.1.2.2.2.2.2.2.2.2.2.2.2.1,r11.1.2.2.2.2.2.2.2.2.2.2.2.2.1,r11.1.2.2.2.2.2.2.2.2.2.2.2.2.2.1,r11.1.2.2.2.2.2.2.2.2.2.2.2.2.2.2,r10.1),()) else ((bif !decide (a0.2.2.2.2.2.2.1=(4:Int)) then some !a2.2.1 else some false:Option (Bool)).bind fun x12=> bif x12 then some (2:Int) else some (1:Int):Option (Int)).bind fun x13=> (lg ((r0.1.1,r0.1.2.1,r0.1.2.2.1,r0.1.2.2.2.1.set n7 ([]++a2.2.2.2),r0.1.2.2.2.2.1.set n5 a2.1,r0.1.2.2.2.2.2),(a0.2.2.2.2.2.1,a0.2.2.2.2.2.2.1,a0.2.2.2.2.2.2.2.1,a0.2.2.2.2.2.2.2.2.1),x13)).bind fun r14=> some ((r14.2.1,r14.2.2.1,r14.2.2.2.1,r14.2.2.2.2.1,r14.2.2.2.2.2.1,r14.2.2.2.2.2.2.1,r14.2.2.2.2.2.2.2.1,r14.2.2.2.2.2.2.2.2.1,r14.2.2.2.2.2.2.2.2.2.1,r14.2.2.2.2.2.2.2.2.2.2.1,r14.2.2.2.2.2.2.2.2.2.2.2.1,r14.2.2.2.2.2.2.2.2.2.2.2.2.1,r14.2.2.2.2.2.2.2.2.2.2.2.2.2.1,r14.2.2.2.2.2.2.2.2.2.2.2.2.2.2.1,r14.2.2.2.2.2.2.2.2.2.2.2.2.2.2.2,(1:Int)),()) else none:=by kernel_rfl
def Jg:TC:=
 (zS [bn 6,bn 7,[o1 8 (.lit Uc [.slice none 0 0])]] (zS [F_ 28 116 0 0,af 9 29] (zS [AJ 30 112 3,Ud 32 1 31,af 10 32] (zS [[o1 33 (.sli oC [])],bK 33 11 33] (zS [[o1 34 (.sli oC [])],zHu 34 34 12 34 34 12] (zS [pq 36 9,KW 38 110 36 37 35 15,gW 40 35 15,Ue 13 1000000014,AC 13 39 13 39] (zS [[⟨false,[],[3000013012],.det 1 (.sli yS []),[41,13],(some 41),none⟩],bK 41 15 41] (zQ (.join [⟨15,Ty6,false⟩] 144110790029836288 none (zS [mI 16 1] (.block 0 (.loop [⟨15,Ty6,false⟩,⟨16,[.i .i64],false⟩] 144110790029836288 (zQ (zS [bM 42 16 10,[o1 44 (.data (.bin .leq) [.t 42,.t 43])]] (zC 44 .skip (.exit 0))) (zQ (.block 1 (zS [bM 48 16 9,KW 50 114 48 49 47 7,gW 52 47 7,zBD 17 1000000018,AC 17 51 17 51] (zR [bK 15 53 15,mH 54 17 7,[⟨false,[54],[],.det 2 (.sli yS [.t 54]),[55,54,54,17],(some 55),none⟩],zDn 53 55 56 53 55 56,bK 56 15 56]))) (zR [Mw 45 16]))))))) (zQ (.join [⟨0,bu,false⟩,⟨11,Uc,false⟩,⟨12,Uc,false⟩] 11150372599265311570767858992208992945092609 none (zS [bn 19] (.block 2 (.loop [⟨0,bu,false⟩,⟨13,dO,false⟩,⟨11,Uc,false⟩,⟨15,Ty6,false⟩,⟨12,Uc,false⟩,⟨19,[.i .i64],false⟩] 11150372599265311570767858992208992945092609 (zQ (zS [af 57 19,qQ 58 1,ib 60 117 59,zDc 61 60 2,kK 112 61 62 62,Ud 63 2 62,kY 64 57 63] (zC 64 .skip (.exit 2))) (zQ (.join [⟨0,bu,false⟩,⟨13,dO,false⟩,⟨11,Uc,false⟩,⟨15,Ty6,false⟩,⟨12,Uc,false⟩] 11150372599265311570767711562371591344011265 none (.block 3 (zQ (zS [mH 67 13 15,ib 68 39 67,h_ 69 68] (zC 69 (zS [qQ 70 9,bM 72 10 19,yT 74 73,[⟨false,[],[],.call 2 41 [.t 0,.t 71,.t 72,.t 74] (.mp 0),[75,0],(some 75),none⟩],zDg 20 1000000021,gN 20 20 75] (zS [mH 77 13 15,dY 78 20 4,KW 79 11 77 78 76 15,gW 81 76 15,Ue 21 1000000022,AC 21 80 21 80] (zQ (.join [⟨13,dO,false⟩,⟨11,Uc,false⟩] 1267645915788252347398329739264 none (zQ (.join [⟨21,dO,false⟩,⟨93,[.b],false⟩] 19802204925287625881689260032 none (zR [zHg 3000021012 1 22 82 21 82,zDe 83 82 0,AO 84 83 2 20 2 2,[o2 87 (.data (.bin .geq) [.t 86,kD 0]) 2 true],ic 84 87 88,AA 90 7 20 3 7,[o2 92 (.data (.bin .geq) [.t 91,kD 0]) 7 true],oZ 89 92 93])) (zC 93 (zS [mH 94 21 15,[⟨false,[94],[],.det 2 (.store 13 [] 0 .nil (.t 94)),[13,94,94,21,67,77],none,none⟩]] (zR [bK 11 95 11,dY 96 20 4,zHv 1 1 96 97,zHw 97 98 97,zDn 95 98 99 95 98 99,bK 99 11 99])) .skip))) (.exit 3)))) .skip)) (zS [yZ 100,qN 102 13 9 101,af 23 102] (zS [yZ 103,Yw 105 13 10 104 4,Ql 24 1000000025,gN 24 24 105] (zS [fV 107 15,af 108 23,[⟨false,[],[1000000026,1000000027],.det 1 (.data (.bin .sub) [.t 108,kD 1]),[109],(some 109),none⟩,⟨false,[],[1000000026,1000000027],.det 1 (.index 107 (.t 109)),[110],(some 110),none⟩,⟨false,[],[1000000026,1000000027],.det 1 (.load 15 [(0,7)] 0 (.t 110) 7 true),[111],(some 111),none⟩],zHo 1000000026 1000000027 24 4 112 112,zHp 1000000026 1000000027 40 111 112 113 113,zHq 1000000026 1000000027 113 106 113 106,zHx 0 7 114 114,zHx 7 4 115 115,zHr 1000000026 1000000027 106 11 1 116 116,[⟨false,[],[1000000027],.det 2 (.a (.c yS [kV 0,kV 0,.slice none 0 0,kV 0,.bool false,.slice none 0 0,.slice none 0 0])),[25,1000000026],(some 25),none⟩,⟨false,[],[1000000026],.det 2 (.a (.c dx [kV 0,.bool false,.slice none 0 0,.slice none 0 0])),[26,1000000027],(some 26),none⟩],fZ 25 114 25 114,AC 26 115 26 115] (zS [fV 117 15,af 118 23,F6 119 118,mH 120 25 7,iW 121 117 119,[⟨false,[120],[],.det 2 (.store 15 [(0,7)] 0 (.t 121) (.t 120)),[15,120,120,25,107,110,111,121,117],none,none⟩]] (zQ (.join [⟨12,Uc,false⟩] 1355812555700614190361883201485951471616 none (zS [bM 122 23 2,yX 124 122 123] (zC 124 (zR [bK 12 125 12,dY 126 24 4,zHv 3 10 126 127,zHw 127 128 127,[⟨false,[128],[],.det 2 (.app (some 125) 128),[129,125,128],(some 129),none⟩],bK 129 12 129]) .skip))) (zS [mH 131 13 15,Gb 132 23 26 4,zGf 134 19 131 132 133,Yz 134 130 134 15,gW 136 130 15,[o4 2 [13,135,67,131] (.store 13 [] 0 .nil (.t 135))]] (zR [[⟨false,[],[3000013012],.det 2 (.copy 11),[137,11,13,100,101,103,104],(some 137),none⟩],Gb 138 23 26 4,[⟨false,[139],[],.det 3 (.build oC [(0,kO 2),(5,.t 138),(6,.t 139)]),[140,1000000001,139,139,26,133],(some 140),none⟩],zHw 140 141 140,zDn 137 141 142 137 141 142,bK 142 11 142])))))))))) (zR [Mw 65 19]))))))) (zQ (zS [af 143 2,w_ 144 143 0] (zC 144 (zS [pq 145 9,bK 12 147 12,pq 6 145,bK 147 8 147] .ret) .skip)) (zS [pq 148 9,bK 11 150 11,pq 6 148,zHu 150 150 8 150 150 8] .ret)))))))))))
def U6:aI:=⟨[.mp [.sl (.ro []) [.d],.d,.d],.rd false gK,.rd false [.d]],(.tup [(false,1),(false,1),(false,1)] [.d,.d,.sl (.own none) [.d,.d,.d,.d,.d,.d,.d,.d,.sl (.ro []) [.d,.d],.sl (.ro []) [.d],.d,.d,.sl (.ro []) [.d,.d],.d]])⟩
def Jh:aJ:=aA [(116,afw),(112,d_),(110,Uu),(114,QJ),(117,Uw),(39,PS),(41,MP),(11,afA),(40,afC),(19,afE)]
def Ji (n:Nat):(List Int × Int × Int) × List Int × Int->Option ((Int × Int × List YA) × List Int × Int × Int):=aB n Jh Jg [bu,[.sl [.i .u8]],[.i .i64]] [.i .i64,.i .i64,.sl oC] bu [6,7,8] (.mp 0)
def Jj:=Ji BIG
def U7:TSp:=⟨U6,[bu,[.sl [.i .u8]],[.i .i64]],[.i .i64,.i .i64,.sl oC],bu,Ou.j (.mp 0),Jj⟩
theorem ahy:aL PG Jh 108 U6 (Jg.ht 151) (.mp 0)=some (Jg.wc Jh,[6,7,8]):=by kernel_rfl
theorem adW:U7.Ok PG 108:=aM (ae alZ (ae dZ (ae adv (ae abN (ae ady (ae Sg (ae Ux (ae al2 (ae al7 (ae al8 (ak PG))))))))))) ahy (by kernel_rfl)
theorem ahz (n) (a0) (a1) (a2):Ji n (a0,a1,a2) = (PR a0).bind fun r0=> (bv (r0.2,(3:Int))).bind fun r1=> (Ht (r0.1,IntKind.wrap .i64 ((1:Int)+r1.1))).bind fun r2=> (aO n (X:=(List Zt7) × Int) (B:=(List Zt7)) (fun self4 x3=> bif decide (x3.2<=(IntKind.wrap .i64 ((1:Int)+r1.1))) then (Eg (x3.2,r0.1)).bind fun r5=> bif decide (x3.1.length+([(r5.1.1,r5.1.2.1,r5.1.2.2.1,r5.1.2.2.2.1,r5.1.2.2.2.2.1,r5.1.2.2.2.2.2.1,r5.1.2.2.2.2.2.2.1)]).length<=4294967296) then self4 (x3.1++([(r5.1.1,r5.1.2.1,r5.1.2.2.1,r5.1.2.2.2.1,r5.1.2.2.2.2.1,r5.1.2.2.2.2.2.1,r5.1.2.2.2.2.2.2.1)]),IntKind.wrap .i64 (x3.2+(1:Int))) else none else some x3.1) ([],(1:Int)):Option ((List Zt7))).bind fun x6=> (aO n (X:=(List Int × Int × Int) × jY × (List QE) × (List Zt7) × (List QE) × Int) (B:=(List Int × Int × Int) × (List QE) × (List QE)) (fun self8 x7=> (Hz a1).bind fun r9=> bif decide ((2:Int)=0) then none else (bv (x7.1,IntKind.wrap .i64 (Int.tdiv r9.1 (2:Int)))).bind fun r10=> bif decide (x7.2.2.2.2.2<(IntKind.wrap .i64 ((2:Int)+r10.1))) then ((Aa x7.2.1).bind fun r11=> bif !r11.1 then (xn (r10.2,r0.1,IntKind.wrap .i64 ((1:Int)+r1.1),IntKind.wrap .i64 (x7.2.2.2.2.2+(1:Int)))).bind fun r12=> (PT (x7.2.1,r12.1)).bind fun r13=> ((bif !decide (r13.1.2.2.2.2.2.2.2.2.2.2.2.2.2.2.2=(0:Int)) then bif decide ((0:Int)<=r12.1.2.2.1) then some ((r13.1.1,r13.1.2.1,r13.1.2.2.1,r13.1.2.2.2.1,r13.1.2.2.2.2.1,r13.1.2.2.2.2.2.1,r13.1.2.2.2.2.2.2.1,r13.1.2.2.2.2.2.2.2.1,r13.1.2.2.2.2.2.2.2.2.1,r13.1.2.2.2.2.2.2.2.2.2.1,r13.1.2.2.2.2.2.2.2.2.2.2.1,r13.1.2.2.2.2.2.2.2.2.2.2.2.1,r13.1.2.2.2.2.2.2.2.2.2.2.2.2.1,r13.1.2.2.2.2.2.2.2.2.2.2.2.2.2.1,r13.1.2.2.2.2.2.2.2.2.2.2.2.2.2.2.1),decide ((0:Int)<=r12.1.2.2.2)) else some ((r13.1.1,r13.1.2.1,r13.1.2.2.1,r13.1.2.2.2.1,r13.1.2.2.2.2.1,r13.1.2.2.2.2.2.1,r13.1.2.2.2.2.2.2.1,r13.1.2.2.2.2.2.2.2.1,r13.1.2.2.2.2.2.2.2.2.1,r13.1.2.2.2.2.2.2.2.2.2.1,r13.1.2.2.2.2.2.2.2.2.2.2.1,r13.1.2.2.2.2.2.2.2.2.2.2.2.1,r13.1.2.2.2.2.2.2.2.2.2.2.2.2.1,r13.1.2.2.2.2.2.2.2.2.2.2.2.2.2.1,r13.1.2.2.2.2.2.2.2.2.2.2.2.2.2.2.1),false) else some ((r13.1.1,r13.1.2.1,r13.1.2.2.1,r13.1.2.2.2.1,r13.1.2.2.2.2.1,r13.1.2.2.2.2.2.1,r13.1.2.2.2.2.2.2.1,r13.1.2.2.2.2.2.2.2.1,r13.1.2.2.2.2.2.2.2.2.1,r13.1.2.2.2.2.2.2.2.2.2.1,r13.1.2.2.2.2.2.2.2.2.2.2.1,r13.1.2.2.2.2.2.2.2.2.2.2.2.1,r13.1.2.2.2.2.2.2.2.2.2.2.2.2.1,r13.1.2.2.2.2.2.2.2.2.2.2.2.2.2.1,r13.1.2.2.2.2.2.2.2.2.2.2.2.2.2.2.1),false):Option (jY × Bool)).bind fun x14=> bif x14.2 then bif decide (x7.2.2.1.length+([((1:Int),r12.1.1,r12.1.2.1,r12.1.2.2.1,r12.1.2.2.2,(0:Int),(0:Int),false,([]:List aV),([]:List Int),(0:Int),(0:Int),([]:List aV),(0:Int))]).length<=4294967296) then some (x14.1,x7.2.2.1++([((1:Int),r12.1.1,r12.1.2.1,r12.1.2.2.1,r12.1.2.2.2,(0:Int),(0:Int),false,[],[],(0:Int),(0:Int),[],(0:Int))])) else none else some (x7.2.1,x7.2.2.1):Option (jY × (List QE))).bind fun x15=> some (r12.2,x15.1,x15.2,x7.2.2.2.1,x7.2.2.2.2.1) else bnd x7.2.2.2.1.length (IntKind.wrap .i64 (x7.2.1.2.2.2.2.2.2.2.2.2.1-(1:Int))) fun n16=> x7.2.2.2.1[n16]?.bind fun y17=> (qY (y17,(x7.2.1.2.2.2.2.2.2.2.2.2.2.1,x7.2.1.2.2.2.2.2.2.2.2.2.2.2.1,x7.2.1.2.2.2.2.2.2.2.2.2.2.2.2.1,x7.2.1.2.2.2.2.2.2.2.2.2.2.2.2.2.1))).bind fun r18=> bnd x7.2.2.2.1.length (IntKind.wrap .i64 (x7.2.1.2.2.2.2.2.2.2.2.2.1-(1:Int))) fun n19=> x7.2.2.2.1[n19]?.bind fun y20=> (bif decide (x7.2.1.2.2.2.2.2.2.2.2.2.1=a2) then bif decide (x7.2.2.2.2.1.length+([((3:Int),(0:Int),(0:Int),(0:Int),(0:Int),(0:Int),(0:Int),false,([]:List aV),([]:List Int),x7.2.1.2.2.2.2.2.2.2.2.2.2.1,x7.2.1.2.2.2.2.2.2.2.2.2.2.2.1,x7.2.1.2.2.2.2.2.2.2.2.2.2.2.2.1,x7.2.1.2.2.2.2.2.2.2.2.2.2.2.2.2.1)]).length<=4294967296) then some (x7.2.2.2.2.1++([((3:Int),(0:Int),(0:Int),(0:Int),(0:Int),(0:Int),(0:Int),false,[],[],x7.2.1.2.2.2.2.2.2.2.2.2.2.1,x7.2.1.2.2.2.2.2.2.2.2.2.2.2.1,x7.2.1.2.2.2.2.2.2.2.2.2.2.2.2.1,x7.2.1.2.2.2.2.2.2.2.2.2.2.2.2.2.1)])) else none else some x7.2.2.2.2.1:Option ((List QE))).bind fun x21=> (Gj (x7.2.1,x7.2.1.2.2.2.2.2.2.2.2.2.1,(r18.1.2.2.2.2.2.2.2.1,r18.1.2.2.2.2.2.2.2.2.1,r18.1.2.2.2.2.2.2.2.2.2.1,r18.1.2.2.2.2.2.2.2.2.2.2.1))).bind fun r22=> bif decide (x7.2.2.1.length+([((2:Int),(0:Int),(0:Int),(0:Int),(0:Int),x7.2.1.2.2.2.2.2.2.2.2.2.1,r18.1.2.2.2.2.2.2.2.1,r18.1.2.2.2.2.2.2.2.2.1,r18.1.2.2.2.2.2.2.2.2.2.1,r18.1.2.2.2.2.2.2.2.2.2.2.1,(0:Int),(0:Int),([]:List aV),(0:Int))]).length<=4294967296) then some (r10.2,(r22.1.1,r22.1.2.1,r22.1.2.2.1,r22.1.2.2.2.1,r22.1.2.2.2.2.1,r22.1.2.2.2.2.2.1,r22.1.2.2.2.2.2.2.1,r22.1.2.2.2.2.2.2.2.1,r22.1.2.2.2.2.2.2.2.2.1,r22.1.2.2.2.2.2.2.2.2.2.1,r22.1.2.2.2.2.2.2.2.2.2.2.1,r22.1.2.2.2.2.2.2.2.2.2.2.2.1,r22.1.2.2.2.2.2.2.2.2.2.2.2.2.1,r22.1.2.2.2.2.2.2.2.2.2.2.2.2.2.1,r22.1.2.2.2.2.2.2.2.2.2.2.2.2.2.2.1),x7.2.2.1++([((2:Int),(0:Int),(0:Int),(0:Int),(0:Int),x7.2.1.2.2.2.2.2.2.2.2.2.1,r18.1.2.2.2.2.2.2.2.1,r18.1.2.2.2.2.2.2.2.2.1,r18.1.2.2.2.2.2.2.2.2.2.1,r18.1.2.2.2.2.2.2.2.2.2.2.1,(0:Int),(0:Int),[],(0:Int))]),x7.2.2.2.1.set n19 (r18.1.1,r18.1.2.1,r18.1.2.2.1,r18.1.2.2.2.1,r18.1.2.2.2.2.1,r18.1.2.2.2.2.2.1,r18.1.2.2.2.2.2.2.1),x21) else none:Option ((List Int × Int × Int) × jY × (List QE) × (List Zt7) × (List QE))).bind fun x23=> self8 (x23.1,x23.2.1,x23.2.2.1,x23.2.2.2.1,x23.2.2.2.2,IntKind.wrap .i64 (x7.2.2.2.2.2+(1:Int))) else some (r10.2,x7.2.2.1,x7.2.2.2.2.1)) (r1.2,(r2.1.1,r2.1.2.1,r2.1.2.2.1,r2.1.2.2.2.1,r2.1.2.2.2.2.1,r2.1.2.2.2.2.2.1,r2.1.2.2.2.2.2.2.1,r2.1.2.2.2.2.2.2.2.1,r2.1.2.2.2.2.2.2.2.2.1,r2.1.2.2.2.2.2.2.2.2.2.1,r2.1.2.2.2.2.2.2.2.2.2.2.1,r2.1.2.2.2.2.2.2.2.2.2.2.2.1,r2.1.2.2.2.2.2.2.2.2.2.2.2.2.1,r2.1.2.2.2.2.2.2.2.2.2.2.2.2.2.1,r2.1.2.2.2.2.2.2.2.2.2.2.2.2.2.2.1),[],x6,[],(0:Int)):Option ((List Int × Int × Int) × (List QE) × (List QE))).bind fun x24=> bif decide ((0:Int)<a2) then some ((r0.1,IntKind.wrap .i64 ((1:Int)+r1.1),x24.2.2),x24.1) else some ((r0.1,IntKind.wrap .i64 ((1:Int)+r1.1),x24.2.1),x24.1):=by kernel_rfl
def xV:TC:=
 (zS [dG 1 0,F7 2 1000000003] (zS [iX 3,Yw 4 1 6 3 4,ib 5 120 4,iX 6,Qm 1 5 1 6 6 5] (zS [iX 7,Yw 8 1 10 7 4,ib 9 138 8,iX 10,Qm 1 9 1 10 10 9] (zS [uL 11 1 14 2 2 1] .ret))))
def K8:aI:=⟨[.rd true Ct2],(.one true Ct2)⟩
def xW:aJ:=aA [(120,lD),(138,sw)]
def xX (n:Nat):YA->Option (YA × Unit):=aB n xW xV [oC] oC [] [2] .no
def xY:=xX BIG
def K9:TSp:=⟨K8,[oC],oC,[],Ou.j .no,xY⟩
theorem Zr:aL PG xW 164 K8 (xV.ht 12) .no=some (xV.wc xW,[2]):=by kernel_rfl
theorem Xo:K9.Ok PG 164:=aM (ae oI (ae AU (ak PG))) Zr (by kernel_rfl)
theorem Zt (n) (a0):xX n a0 = (gM (a0.2.2.2.2.2.2.1,a0.2.2.2.2.2.2.2.1,a0.2.2.2.2.2.2.2.2.1,a0.2.2.2.2.2.2.2.2.2.1)).bind fun r0=> (jZ a0.2.2.2.2.2.2.2.2.2.2).bind fun r1=> some ((a0.1,a0.2.1,a0.2.2.1,a0.2.2.2.1,a0.2.2.2.2.1,a0.2.2.2.2.2.1,r0.1.1,r0.1.2.1,r0.1.2.2.1,r0.1.2.2.2,r1.1),()):=by kernel_rfl
def Jk:TC:=
 (zS [KS 4 1000000005] (zS [qQ 7 1,kK 112 8 9 9,af 5 9] (zS [Qy 10 1 112,af 6 12] (zQ (.join [⟨6,[.i .i64],false⟩] 1040448 none (zS [bM 13 5 6,yX 15 13 14] (zC 15 (zR [zIw 16 5,af 18 1,zAC 19 17 18,af 6 19]) .skip))) (zQ (zS [bM 20 5 6,[o1 22 (.data (.bin .gtr) [.t 20,.t 21])]] (zC 22 (zS [bM 23 6 5,Mr 25 23 24,gN 4 4 25] .ret) .skip)) (zS [bM 26 5 6,Mr 28 26 27,gN 4 4 28] .ret))))))
def U8:aI:=⟨[.mp [.sl (.ro []) [.d],.d,.d],.rd false [.d]],(.one true [.d,.d])⟩
def Jl:aJ:=aA [(112,d_)]
def Jm (n:Nat):(List Int × Int × Int) × Int->Option (aV × List Int × Int × Int):=aB n Jl Jk [bu,[.i .i64]] [.i .i64,.i .i64] bu [4] (.mp 0)
def lF:=Jm BIG
def zF:TSp:=⟨U8,[bu,[.i .i64]],[.i .i64,.i .i64],bu,Ou.j (.mp 0),lF⟩
theorem ahA:aL PG Jl 161 U8 (Jk.ht 29) (.mp 0)=some (Jk.wc Jl,[4]):=by kernel_rfl
theorem ET:zF.Ok PG 161:=aM (ae dZ (ak PG)) ahA (by kernel_rfl)
theorem ahB (n) (a0) (a1):Jm n (a0,a1) = (bv (a0,a1)).bind fun r0=> (bv (r0.2,a1)).bind fun r1=> (bif decide (r0.1=r1.1) then bif decide (a1=0) then none else some (Int.tmod (IntKind.wrap .i64 (r0.1+(1:Int))) a1) else some r1.1:Option (Int)).bind fun x2=> bif decide (x2<r0.1) then some ((x2,r0.1),r1.2) else some ((r0.1,x2),r1.2):=by kernel_rfl
def EU:TC:=
 (zS [Ql 4 1000000005] (zS [AJ 8 112 9,Ud 10 1 9,bH 11,[⟨false,[],[],.det 8 (.sli [.i .i64] [kO 1,kO 1,kO 1,kO 2,kO 2,kO 3,kO 4]),[12,1000000001,1000000002,1000000003,1000000004,1000000005,1000000006,1000000007],(some 12),none⟩],kK 125 12 13 13,[o1 14 (.build dP [(0,.t 10),(1,.t 13)])],Ql 5 1000000006,fZ 5 14 5 14] (zQ (.join [⟨0,bu,false⟩,⟨5,dP,false⟩] 1125899906810081 none (zS [bP 15 5 1] (.block 0 (zS [jq 23 16 3 22] (zC 22 (zR [Qy 24 1 112,jX 27 5 5 3 26]) (zS [jq 29 16 4 28] (zC 28 (zS [bn 6] (.block 1 (.loop [⟨0,bu,false⟩,⟨5,dP,false⟩,⟨6,[.i .i64],false⟩] 1125898833101025 (zQ (zS [af 30 6,AJ 31 112 4,Ud 33 1 32,kY 34 30 33] (zC 34 .skip (.exit 1))) (zQ (.join [⟨0,bu,false⟩,⟨5,dP,false⟩] 1125762467889313 none (.block 2 (zS [Qy 37 1 161,KS 7 1000000008,gN 7 7 39] (zS [uM 40 5 2,Da 42 7 2 143 41,h_ 44 43] (zC 44 (zR [uM 45 5 2,Da 47 7 2 130 46,iX 49,zEE 5 48 41 46 5 2 49 48]) .skip))))) (zR [eu 35 6 6])))))) (zR [Qy 17 1 161,zEB 20 19,uO 21 5 20 5 2 20])))))))) (zS [uL 50 5 4 4 4 5] .ret))))
def Q0:aI:=⟨[.mp [.sl (.ro []) [.d],.d,.d],.rd false [.d]],(.one true Aw)⟩
def EW:aJ:=aA [(112,d_),(125,iU),(161,zF),(143,qU),(130,qV)]
def EX (n:Nat):(List Int × Int × Int) × Int->Option (kP × List Int × Int × Int):=aB n EW EU [bu,[.i .i64]] dP bu [4] (.mp 0)
def EY:=EX BIG
def Q3:TSp:=⟨Q0,[bu,[.i .i64]],dP,bu,Ou.j (.mp 0),EY⟩
theorem adX:aL PG EW 201 Q0 (EU.ht 51) (.mp 0)=some (EU.wc EW,[4]):=by kernel_rfl
theorem ab5:Q3.Ok PG 201:=aM (ae dZ (ae jB (ae ET (ae tu (ae tC (ak PG)))))) adX (by kernel_rfl)
theorem adY (n) (a0) (a1):EX n (a0,a1) = (bv (a0,(9:Int))).bind fun r0=> (bW (r0.2,[(1:Int),(1:Int),(1:Int),(2:Int),(2:Int),(3:Int),(4:Int)])).bind fun r1=> (bif decide (r1.1=(3:Int)) then (bv (r1.2,a1)).bind fun r2=> some (r2.2,(IntKind.wrap .i64 ((1:Int)+r0.1),r1.1,[],r2.1)) else bif decide (r1.1=(4:Int)) then aO n (X:=(List Int × Int × Int) × kP × Int) (B:=(List Int × Int × Int) × kP) (fun self4 x3=> (bv (x3.1,(4:Int))).bind fun r5=> bif decide (x3.2.2<(IntKind.wrap .i64 ((1:Int)+r5.1))) then ((lF (r5.2,a1)).bind fun r6=> (nC (x3.2.1.2.2.1,r6.1)).bind fun r7=> bif !r7.1 then (nD (x3.2.1.2.2.1,r6.1)).bind fun r8=> some (r6.2,(x3.2.1.1,x3.2.1.2.1,r8.1,x3.2.1.2.2.2)) else some (r6.2,x3.2.1):Option ((List Int × Int × Int) × kP)).bind fun x9=> self4 (x9.1,x9.2,IntKind.wrap .i64 (x3.2.2+(1:Int))) else some (r5.2,x3.2.1)) (r1.2,(IntKind.wrap .i64 ((1:Int)+r0.1),r1.1,[],(0:Int)),(0:Int)) else (lF (r1.2,a1)).bind fun r10=> some (r10.2,(IntKind.wrap .i64 ((1:Int)+r0.1),r1.1,[r10.1],(0:Int))):Option ((List Int × Int × Int) × kP)).bind fun x11=> some (x11.2,x11.1):=by kernel_rfl
def Jn:TC:=
 (zS [bf 4] (zS [qQ 5 1,kK 112 6 7 7,pg 8 7 0,af 4 8] .ret))
def U9:aI:=⟨[.mp [.sl (.ro []) [.d],.d,.d],.rd false [.d]],(.one false [.d])⟩
def Jo:aJ:=aA [(112,d_)]
def Jp (n:Nat):(List Int × Int × Int) × Int->Option ((Bool) × List Int × Int × Int):=aB n Jo Jn [bu,[.i .i64]] [.b] bu [4] (.mp 0)
def nX:=Jp BIG
def Jq:TSp:=⟨U9,[bu,[.i .i64]],[.b],bu,Ou.j (.mp 0),nX⟩
theorem ahC:aL PG Jo 77 U9 (Jn.ht 9) (.mp 0)=some (Jn.wc Jo,[4]):=by kernel_rfl
theorem Q4:Jq.Ok PG 77:=aM (ae dZ (ak PG)) ahC (by kernel_rfl)
theorem ahD (n) (a0) (a1):Jp n (a0,a1) = (bv (a0,a1)).bind fun r0=> some (decide (r0.1=(0:Int)),r0.2):=by kernel_rfl
def xZ:TC:=
 (zS [dG 3 1,KS 4 1000000005] (zQ (.seq (.join [⟨0,bu,false⟩,⟨12,[.b],false⟩] 8161 none (zR [iY 5 3 1 5,kX 7 6,w_ 8 7 0,af 9 8,zHz 10 4,[⟨false,[],[],.call 2 77 [.t 0,kO 2] (.mp 0),[11,0],(some 11),some (4,true)⟩],oZ 9 11 12])) (zC 12 (zS [bH 15,zGi 0 13 13,zGj 0 1 13 14 14,MB 16 3 1,kK 112 18 19 19,Qu 20 14 19 2 2,gN 4 4 21] .ret) .skip)) (zQ (zS [AJ 22 77 12] (zC 23 (zS [bH 24,[⟨false,[],[],.det 6 (.sli [.i .i64] [kO (-1),kO 0,kO 5,kO 11,kO 12]),[25,1000000001,1000000002,1000000003,1000000004,1000000005],(some 25),none⟩],kK 125 25 26 26,bH 27,[⟨false,[],[],.det 5 (.sli [.i .i64] [kO 0,kO 5,kO 11,kO 12]),[28,1000000001,1000000002,1000000003,1000000004],(some 28),none⟩],kK 125 28 29 29,Mr 30 26 29,gN 4 4 30] .ret) .skip)) (zS [AJ 31 161 6,gN 4 4 32] .ret))))
def K_:aI:=⟨[.mp [.sl (.ro []) [.d],.d,.d],.rd true Ct7],(.one true [.d,.d])⟩
def x_:aJ:=aA [(77,Jq),(112,d_),(125,iU),(161,zF)]
def yc (n:Nat):(List Int × Int × Int) × vo->Option (aV × List Int × Int × Int):=aB n x_ xZ [bu,jK] [.i .i64,.i .i64] bu [4] (.mp 0)
def lQ:=yc BIG
def yf:TSp:=⟨K_,[bu,jK],[.i .i64,.i .i64],bu,Ou.j (.mp 0),lQ⟩
theorem Zu:aL PG x_ 160 K_ (xZ.ht 33) (.mp 0)=some (xZ.wc x_,[4]):=by kernel_rfl
theorem Gl:yf.Ok PG 160:=aM (ae Q4 (ae dZ (ae jB (ae ET (ak PG))))) Zu (by kernel_rfl)
theorem Zv (n) (a0) (a1):yc n (a0,a1) = (bif decide ((0:Int)<(a1.2.length:Int)) then (nX (a0,(2:Int))).bind fun r0=> some (r0.2,r0.1) else some (a0,false):Option ((List Int × Int × Int) × Bool)).bind fun x1=> bif x1.2 then (bv (x1.1,(a1.2.length:Int))).bind fun r2=> bnd a1.2.length r2.1 fun n3=> a1.2[n3]?.bind fun y4=> some (y4,r2.2) else (nX (x1.1,(12:Int))).bind fun r5=> bif r5.1 then (bW (r5.2,[(-1:Int),(0:Int),(5:Int),(11:Int),(12:Int)])).bind fun r6=> (bW (r6.2,[(0:Int),(5:Int),(11:Int),(12:Int)])).bind fun r7=> some ((r6.1,r7.1),r7.2) else (lF (r5.2,(6:Int))).bind fun r8=> some (r8.1,r8.2):=by kernel_rfl
def vK:TC:=
 (zS [Ql 4 1000000005] (zS [qQ 6 1,kK 201 7 8 8,Ql 5 1000000006,fZ 5 8 5 8] (zQ (.join [⟨0,bu,false⟩,⟨5,dP,false⟩] 549755813409 none (zS [AJ 9 112 20] (.block 0 (zS [C_ 12 10 0] (zC 11 (zR [bH 13,zHA,kK 125 14 15 15,jX 16 5 5 0 15]) (zS [jq 18 10 1 17] (zC 17 (zR [bH 19,zHB 5 1 20 20,kK 125 20 21 21,jX 22 5 5 1 21]) (zS [jq 24 10 2 23] (zC 23 (zR [bH 25,zHC 1 11 12 26 26,kK 125 26 27 27,jX 28 5 5 3 27]) (zS [jq 30 10 3 29] (zC 29 (zR [bH 33,zGi 0 31 31,zHD 0 5 2 31 32 32,zHc 34,kK 160 34 35 35,zEB 36 35,Mq 32 32 36 37 32 32 5 37,iX 38,F5 5 37 32 5 2 38 37]) .skip))))))))))) (zS [uL 39 5 4 4 4 5] .ret))))
def Gm:aI:=⟨[.mp [.sl (.ro []) [.d],.d,.d],.rd false [.d]],(.one true Aw)⟩
def vL:aJ:=aA [(201,Q3),(112,d_),(125,iU),(160,yf)]
def vM (n:Nat):(List Int × Int × Int) × Int->Option (kP × List Int × Int × Int):=aB n vL vK [bu,[.i .i64]] dP bu [4] (.mp 0)
def vN:=vM BIG
def Gn:TSp:=⟨Gm,[bu,[.i .i64]],dP,bu,Ou.j (.mp 0),vN⟩
theorem Xp:aL PG vL 162 Gm (vK.ht 40) (.mp 0)=some (vK.wc vL,[4]):=by kernel_rfl
theorem U_:Gn.Ok PG 162:=aM (ae ab5 (ae dZ (ae jB (ae Gl (ak PG))))) Xp (by kernel_rfl)
theorem Xq (n) (a0) (a1):vM n (a0,a1) = (EY (a0,a1)).bind fun r0=> ((bv (r0.2,(20:Int))).bind fun r1=> bif decide (r1.1=(0:Int)) then (bW (r1.2,[(0:Int),(-1:Int),(100000:Int),(100001:Int)])).bind fun r2=> some (r2.2,(r2.1,r0.1.2)) else bif decide (r1.1=(1:Int)) then (bW (r1.2,[(0:Int),(5:Int),(1:Int),(3:Int),(4:Int)])).bind fun r3=> some (r3.2,(r0.1.1,r3.1,r0.1.2.2)) else bif decide (r1.1=(2:Int)) then (bW (r1.2,[(-1:Int),(1:Int),(11:Int),(12:Int)])).bind fun r4=> some (r4.2,(r0.1.1,r0.1.2.1,r0.1.2.2.1,r4.1)) else bif decide (r1.1=(3:Int)) then (lQ (r1.2,((0:Int),[]))).bind fun r5=> bif decide (r0.1.2.2.1.length+[r5.1].length<=4294967296) then some (r5.2,(r0.1.1,r0.1.2.1,r0.1.2.2.1++[r5.1],r0.1.2.2.2)) else none else some (r1.2,r0.1):Option ((List Int × Int × Int) × kP)).bind fun x6=> some (x6.2,x6.1):=by kernel_rfl
def NM:TC:=
 (zS [dG 1 0,zBb 2] (zQ (zS [dY 3 1 2,ib 4 127 3,h_ 5 4] (zC 5 (zS [xe 6,bK 6 2 6] .ret) .skip)) (zS [iY 7 1 0 7,iY 9 1 1 9,Qv 11 142 8 10 2] .ret)))
def YV:aI:=⟨[.rd true Ct7],(.one false gK)⟩
def NN:aJ:=aA [(127,zy),(142,si)]
def NP (n:Nat):vo->Option ((List Int) × Unit):=aB n NN NM [jK] [.sl [.i .i64]] [] [2] .no
def NQ:=NP BIG
def YW:TSp:=⟨YV,[jK],[.sl [.i .i64]],[],Ou.j .no,NQ⟩
theorem akg:aL PG NN 126 YV (NM.ht 12) .no=some (NM.wc NN,[2]):=by kernel_rfl
theorem ahE:YW.Ok PG 126:=aM (ae Es (ae xM (ak PG))) akg (by kernel_rfl)
theorem akh (n) (a0):NP n a0 = (tH a0).bind fun r0=> bif !r0.1 then some ([],()) else (nA (a0.1,a0.2)).bind fun r1=> some (r1.1,()):=by kernel_rfl
def BF:TC:=
 (zS [Qt 4 1000000005] (zS [af 8 1,[o1 9 (.build jK [(0,.t 8)])],zGp 5 1000000006,fZ 5 9 5 9] (zQ (.join [⟨0,bu,false⟩,⟨5,jK,false⟩] 268434657 none (zS [bn 6] (.block 0 (.loop [⟨0,bu,false⟩,⟨5,jK,false⟩,⟨6,[.i .i64],false⟩] 268434657 (zQ (zS [af 10 6,AJ 11 112 8,kY 13 10 12] (zC 13 .skip (.exit 0))) (zQ (.join [⟨0,bu,false⟩,⟨5,jK,false⟩] 268370081 none (.block 1 (zS [Qy 16 1 161,KS 7 1000000008,gN 7 7 18] (zS [mH 19 5 2,Da 20 7 2 129 19,h_ 22 21] (zC 22 (zR [uM 23 5 1,Da 25 7 2 130 24,iX 27,zEE 5 26 19 24 5 1 27 26]) .skip))))) (zR [eu 14 6 6]))))))) (zS [bH 28,bH 31,zAD 112 9 29 29,[⟨false,[],[0],.det 1 (.data (.bin .add) [kD 1,.t 29]),[30],(some 30),none⟩],zAD 77 2 32 32,zGi 0 33 33,zHD 0 5 1 33 34 34,zHj 0 5 35 35,ib 36 126 35,[⟨false,[34],[],.det 3 (.build dx [(0,.t 30),(1,.t 32),(2,.t 34),(3,.t 36)]),[37,34,36,34,5,35],(some 37),none⟩],fZ 4 37 4 37] .ret))))
def NR:aI:=⟨[.mp [.sl (.ro []) [.d],.d,.d],.rd false [.d]],(.one true Av)⟩
def BG:aJ:=aA [(112,d_),(161,zF),(129,zD),(130,qV),(77,Jq),(126,YW)]
def BH (n:Nat):(List Int × Int × Int) × Int->Option (gT × List Int × Int × Int):=aB n BG BF [bu,[.i .i64]] dx bu [4] (.mp 0)
def BI:=BH BIG
def NS:TSp:=⟨NR,[bu,[.i .i64]],dx,bu,Ou.j (.mp 0),BI⟩
theorem ab6:aL PG BG 159 NR (BF.ht 38) (.mp 0)=some (BF.wc BG,[4]):=by kernel_rfl
theorem Zw:NS.Ok PG 159:=aM (ae dZ (ae ET (ae EL (ae tC (ae Q4 (ae ahE (ak PG))))))) ab6 (by kernel_rfl)
theorem ab7 (n) (a0) (a1):BH n (a0,a1) = (aO n (X:=(List Int × Int × Int) × vo × Int) (B:=(List Int × Int × Int) × vo) (fun self1 x0=> (bv (x0.1,(8:Int))).bind fun r2=> bif decide (x0.2.2<r2.1) then ((lF (r2.2,a1)).bind fun r3=> (tO (x0.2.1,r3.1)).bind fun r4=> bif !r4.1 then (nD (x0.2.1.2,r3.1)).bind fun r5=> some (r3.2,(x0.2.1.1,r5.1)) else some (r3.2,x0.2.1):Option ((List Int × Int × Int) × vo)).bind fun x6=> self1 (x6.1,x6.2,IntKind.wrap .i64 (x0.2.2+(1:Int))) else some (r2.2,x0.2.1)) (a0,(a1,[]),(0:Int)):Option ((List Int × Int × Int) × vo)).bind fun x7=> (bv (x7.1,(9:Int))).bind fun r8=> (nX (r8.2,(2:Int))).bind fun r9=> (NQ x7.2).bind fun r10=> some ((IntKind.wrap .i64 ((1:Int)+r8.1),r9.1,x7.2.2,r10.1),r9.2):=by kernel_rfl
def tQ:TC:=
 (zS [Qt 4 1000000005] (zS [qQ 6 1,kK 159 7 8 8,Qt 5 1000000006,fZ 5 8 5 8] (zQ (.join [⟨0,bu,false⟩,⟨5,dx,false⟩] 17592186043937 none (zS [AJ 9 112 20] (.block 0 (zS [C_ 12 10 0] (zC 11 (zR [bH 13,zHA,kK 125 14 15 15,jX 16 5 5 0 15]) (zS [jq 18 10 1 17] (zC 17 (zR [qQ 21 1,bH 24,[⟨false,[],[0,1000000001,1000000002,1000000003,1000000004],.det 1 (.idx .nil),[19],(some 19),none⟩,⟨false,[],[0,1000000001,1000000002,1000000003,1000000004],.det 1 (.load 5 [] 3 (.t 19) 1 true),[20],(some 20),none⟩,⟨false,[],[1000000001,1000000002,1000000003,1000000004],.call 2 112 [.t 0,.t 22] (.mp 0),[23,0],(some 23),none⟩,⟨false,[],[0],.det 5 (.sli [.i .i64] [kO (-1),kO 0,kO 1,kO 11]),[25,1000000001,1000000002,1000000003,1000000004],(some 25),none⟩],kK 125 25 26 26,iW 27 20 23,zBi 5 20 5 3 27 26]) (zS [jq 29 10 2 28] (zC 28 (zR [uM 30 5 3,[⟨true,[31],[],.det 2 (.res 31 (some (kD 1)) none),[32,31,31,5],(some 32),none⟩],iX 33,F5 5 32 31 5 3 33 32]) (zS [jq 35 10 3 34] (zC 34 (zR [bH 38,zGi 0 36 36,zHD 0 5 2 36 37 37,zHc 39,kK 160 39 40 40,zEB 41 40,Mq 37 37 41 42 37 37 5 42,iX 43,F5 5 42 37 5 2 43 42]) .skip))))))))))) (zS [uL 44 5 4 4 4 5] .ret))))
def Dr:aI:=⟨[.mp [.sl (.ro []) [.d],.d,.d],.rd false [.d]],(.one true Av)⟩
def tT:aJ:=aA [(159,NS),(112,d_),(125,iU),(160,yf)]
def tV (n:Nat):(List Int × Int × Int) × Int->Option (gT × List Int × Int × Int):=aB n tT tQ [bu,[.i .i64]] dx bu [4] (.mp 0)
def tX:=tV BIG
def Dt:TSp:=⟨Dr,[bu,[.i .i64]],dx,bu,Ou.j (.mp 0),tX⟩
theorem Vd:aL PG tT 76 Dr (tQ.ht 45) (.mp 0)=some (tQ.wc tT,[4]):=by kernel_rfl
theorem Sz:Dt.Ok PG 76:=aM (ae Zw (ae dZ (ae jB (ae Gl (ak PG))))) Vd (by kernel_rfl)
theorem Ve (n) (a0) (a1):tV n (a0,a1) = (BI (a0,a1)).bind fun r0=> ((bv (r0.2,(20:Int))).bind fun r1=> bif decide (r1.1=(0:Int)) then (bW (r1.2,[(0:Int),(-1:Int),(100000:Int),(100001:Int)])).bind fun r2=> some (r2.2,(r2.1,r0.1.2)) else bif decide (r1.1=(1:Int)) then (bv (r1.2,a1)).bind fun r3=> (bW (r3.2,[(-1:Int),(0:Int),(1:Int),(11:Int)])).bind fun r4=> bnd r0.1.2.2.2.length r3.1 fun n5=> r0.1.2.2.2[n5]?.bind fun y6=> some (r4.2,(r0.1.1,r0.1.2.1,r0.1.2.2.1,r0.1.2.2.2.set n5 r4.1)) else bif decide (r1.1=(2:Int)) then bif decide (0<=(1:Int)) then bif decide ((Int.toNat (1:Int))<=r0.1.2.2.2.length/\r0.1.2.2.2.length<=r0.1.2.2.2.length) then some (r1.2,(r0.1.1,r0.1.2.1,r0.1.2.2.1,List.take (r0.1.2.2.2.length-(Int.toNat (1:Int))) (List.drop (Int.toNat (1:Int)) r0.1.2.2.2))) else none else none else bif decide (r1.1=(3:Int)) then (lQ (r1.2,((0:Int),[]))).bind fun r7=> bif decide (r0.1.2.2.1.length+[r7.1].length<=4294967296) then some (r7.2,(r0.1.1,r0.1.2.1,r0.1.2.2.1++[r7.1],r0.1.2.2.2)) else none else some (r1.2,r0.1):Option ((List Int × Int × Int) × gT)).bind fun x8=> some (x8.2,x8.1):=by kernel_rfl
end
end Go.Fw
