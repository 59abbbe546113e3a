/- The given functions, as what they compute; each is shown to be what the code does. No conditions. -/
import Derived.Test.YtjicinmnfkinhaaGreatX1
set_option linter.unusedSectionVars false
namespace Go.Fw
noncomputable section
def ZW:TC:=
 (zS [ek 3 0,ek 5 2,zIi 6,bH 7] (zS [ai 13 1,eF 14 5 14,qj 15 18 13 14 12,Jm 16 12 0 1 8] (zQ (zS [ai 18 9,jr 19 18] (zC 19 (zS [[o1 20 (.sli [.i .i64,.s,.s,.s] [])],dh 20 6 20,bH 7] .ret) .skip)) (zS [ai 22 8,jH 23 19 22,dh 23 21 23,Jm 24 21 0 1 10] (zS [ai 26 10,[⟨false,[],[],.det 3 (.build [.i .i64,.s,.s,.s] [(0,kO 1),(1,.c [.s] [.string ⟨#[108,111,103]⟩]),(2,.t 26)]),[27,1000000001,1000000002],(some 27),none⟩,⟨false,[],[],.det 3 (.build [.i .i64,.s,.s,.s] [(0,kO 2),(1,.c [.s] [.string ⟨#[108,111,103]⟩])]),[28,1000000001,1000000002],(some 28),none⟩,o1 29 (.sli [.i .i64,.s,.s,.s] [.t 27,.t 28])],dh 29 6 29,ic 7] .ret)))))
def ZX:aO:=⟨[.rd true qN,.rd false [.d],.rd true Ct2],(.tup [(false,1),(false,1)] Ct7)⟩
def ZY:aN:=aG [(18,ZK),(19,aiO)]
def LC (n:Nat):(List (ByteArray × ByteArray × Int)) × Int × Zt5->Option ((List VV × Bool) × Unit):=aI n ZY ZW [[.sl [.s,.s,.i .i64]],[.i .i64],xA] acl [] [6,7] .no
def LD:=LC BIG
def ZZ:TSp:=⟨ZX,[[.sl [.s,.s,.i .i64]],[.i .i64],xA],acl,[],Ou.j .no,LD⟩
theorem aqn:zK ZY 6 ZX ZW 30 .no [6,7]:=by show _=_;kernel_rfl
theorem alB:ZZ.Ok PG 6:=aV (ae aly (ae atS (ax PG))) aqn (by kernel_rfl)
theorem aqo (n) (a0) (a1) (a2):LC n (a0,a1,a2) = (Lu (a1,a2)).bind fun r0=> bif !r0.1.2 then some (([],false),()) else (Wl r0.1.1).bind fun r1=> some (([((1:Int),(ByteArray.mk #[108,111,103]),r1.1.1,ByteArray.empty),((2:Int),(ByteArray.mk #[108,111,103]),ByteArray.empty,ByteArray.empty)],true),()):=by kernel_rfl
def Z0:TC:=
 (zS [bH 2] (zS [ai 3 0,r_ 4 3,ug 5 32 4 8,ai 2 5] .ret))
def Z4:aO:=⟨[.rd false [.d]],(.one false [.d])⟩
def Z5:aN:=aG [(32,d9)]
def LF (n:Nat):ByteArray->Option ((Bool) × Unit):=aI n Z5 Z0 [[.s]] [.b] [] [2] .no
def tO:=LF BIG
def LG:TSp:=⟨Z4,[[.s]],[.b],[],Ou.j .no,tO⟩
theorem aqp:zK Z5 51 Z4 Z0 6 .no [2]:=by show _=_;kernel_rfl
theorem UG:LG.Ok PG 51:=aV (ae dQ (ax PG)) aqp (by kernel_rfl)
theorem aqr (n) (a0):LF n a0 = (bD ((a0.size:Int),(1:Int),(8:Int))).bind fun r0=> some (r0.1,()):=by kernel_rfl
def aeE:TC:=
 (zS [nO 1 0] (zQ (zS [lm 5 1 0 5,mJ 7 6,El 8 7 30] (zC 8 (zS [bH 2] .ret) .skip)) (zQ (.join [] 72057594037927452 (some [⟨2,[.b],false⟩]) (zS [bN 3] (.block 0 (.loop [⟨3,[.i .i64],false⟩] 72057594037927452 (zQ (zS [Ga 9 3 1 0,qZ 12 11 9] (zC 13 .skip (.exit 0))) (zQ (.join [] 72057594037862420 (some [⟨2,[.b],false⟩]) (.block 1 (zS [xK 16 1 0 3,uJ 19 17 18 3 3,[o5 (.a (.c [.s,.s,.i .i64] [.string ⟨#[]⟩,.string ⟨#[]⟩,kV 0])) 4 1000000005],jW 4 4 20] (zQ (.join [⟨55,[.b],false⟩] 72057594035830784 none (zR [bV 21 4 0,jH 23 51 22,Cw 24 23,pE 26 4 4 1 4,zIj 28 27 4,Jh 29 28 20000 4,Jn 25 29 30,qi 32 10 4 2,qi 34 10 4 1,zIj 36 35 10,zEn 32 33 36 37 37 10,oh 38 37 10 31,iL 41 3 19,Jh 42 41 0 19,iL 43 42 19,wF 44 22 1 0,ik 46 3 22,Jg 47 46 22,Cv 48 45 47 22,Bq 49 48 22,O1 50 45 3 49 22,wF 51 22 4 0,zGs 53 50 52 22,En 43 53 54 54 19 40])) (zC 55 (zS [bH 2] .ret) .skip))))) (zR [gJ 14 3 3]))))))) (zS [ic 2] .ret))))
def aeF:aO:=⟨[.rd true qN],(.one false [.d])⟩
def aeG:aN:=aG [(51,LG),(32,d9)]
def Qm (n:Nat):(List (ByteArray × ByteArray × Int))->Option ((Bool) × Unit):=aI n aeG aeE [[.sl [.s,.s,.i .i64]]] [.b] [] [2] .no
def sw:=Qm BIG
def GG:TSp:=⟨aeF,[[.sl [.s,.s,.i .i64]]],[.b],[],Ou.j .no,sw⟩
theorem atT:zK aeG 29 aeF aeE 56 .no [2]:=by show _=_;kernel_rfl
theorem LH:GG.Ok PG 29:=aV (ae UG (ae dQ (ax PG))) atT (by kernel_rfl)
theorem atU (n) (a0):Qm n a0 =
 bif decide (30<(a0.length:Int)) then
  some (false,())
 else (aU n (X:=Int) (B:=(Unit) ⊕ (Bool)) (fun self1 x0=>
  bif decide (x0<(a0.length:Int)) then
   (bnd a0.length x0 fun n2=>
    a0[n2]?.bind fun y3=>
    ((tO y3.1).bind fun r4=>
     bif !r4.1 then
      some true
     else bif decide (20000<(y3.2.1.size:Int)) then
      some true
     else (bD (y3.2.2,(0:Int),(y3.2.1.size:Int))).bind fun r5=>
     bif !r5.1 then
      some true
     else bif decide (0<x0) then
      bnd a0.length (IntKind.wrap .i64 (x0-1)) fun n6=>
      a0[n6]?.bind fun y7=>
      some (!Op.bytesLess y7.1.toList y3.1.toList)
     else some false).bind fun x8=>
    bif x8 then
     some (Sum.inr false)
    else some (Sum.inl ())).bind fun y=>match y with
   | .inl x9=>
    self1 (IntKind.wrap .i64 (x0+1))
   | .inr x9=>
    some (Sum.inr x9)
  else some (Sum.inl ())) (0:Int)).bind fun y=>match y with
 | .inl x10=>
  some (true,())
 | .inr x10=>
  some (x10,()):=by kernel_rfl
def aiP:TC:=
 (zS [ek 2 0,bN 4] (zQ (.join [] 4194288 (some [⟨4,[.i .i64],false⟩]) (zS [bN 5] (.block 0 (.loop [⟨5,[.i .i64],false⟩] 4194288 (zQ (zS [ai 6 5,lm 7 2 0 7,mJ 9 8,mf 10 6 9] (zC 10 .skip (.exit 0))) (zQ (.block 1 (zS [xK 13 2 0 5,Jk 16 14 15 3,ai 19 1,Bp 20 18 19] (zC 20 (zS [yZ 21 5 4] .ret) .skip))) (zR [gJ 11 5 5]))))))) (zS [zEf 4] .ret)))
def aiQ:aO:=⟨[.rd true qN,.rd false [.d]],(.one false [.d])⟩
def aiR:aN:=aG []
def Wm (n:Nat):(List (ByteArray × ByteArray × Int)) × ByteArray->Option ((Int) × Unit):=aI n aiR aiP [[.sl [.s,.s,.i .i64]],[.s]] [.i .i64] [] [4] .no
def LJ:=Wm BIG
def Wn:TSp:=⟨aiQ,[[.sl [.s,.s,.i .i64]],[.s]],[.i .i64],[],Ou.j .no,LJ⟩
theorem awJ:zK aiR 26 aiQ aiP 22 .no [4]:=by show _=_;kernel_rfl
theorem aeH:Wn.Ok PG 26:=aV (ax PG) awJ (by kernel_rfl)
theorem awK (n) (a0) (a1):Wm n (a0,a1) = (aU n (X:=Int) (B:=(Unit) ⊕ (Int)) (fun self1 x0=> bif decide (x0<(a0.length:Int)) then bnd a0.length x0 fun n2=> a0[n2]?.bind fun y3=> bif y3.1.toList == a1.toList then some (Sum.inr x0) else self1 (IntKind.wrap .i64 (x0+1)) else some (Sum.inl ())) (0:Int)).bind fun y=>match y with | .inl x4=> some ((-1:Int),()) | .inr x4=> some (x4,()):=by kernel_rfl
def aeI:TC:=
 (zS [ek 2 0,ek 3 1,Br 4 1000000005] (zS [MX 8,Br 5 1000000006,mX 5 8 5 8] (zQ (.join [⟨5,[.sl [.s,.s,.i .i64]],false⟩] 34359737952 none (zS [bN 6] (.block 0 (.loop [⟨5,[.sl [.s,.s,.i .i64]],false⟩,⟨6,[.i .i64],false⟩] 34359737952 (zQ (zS [Ga 9 6 2 0,qZ 12 11 9] (zC 13 .skip (.exit 0))) (zQ (.join [⟨5,[.sl [.s,.s,.i .i64]],false⟩] 34359672864 none (.block 1 (zS [ai 18 6,bV 16 2 0,Jk 19 17 18 3,bV 22 3 0,mf 24 21 23] (zC 24 (zR [ai 29 6,xG 25 5 0,bV 27 2 0,uJ 30 28 29 3 3,zIn 32 31,O_ 26 26 32 33 26 26 5 33 5 5 0]) .skip)))) (zR [gJ 14 6 6]))))))) (zS [xG 35 5 0,eF 37 3 3,zIn 38 37,O_ 36 36 38 39 36 36 5 39 5 5 0] (zQ (.join [⟨5,[.sl [.s,.s,.i .i64]],false⟩] 147573950390653157536 none (zS [bN 7] (.block 2 (.loop [⟨5,[.sl [.s,.s,.i .i64]],false⟩,⟨7,[.i .i64],false⟩] 147573950390653157536 (zQ (zS [O7 41 7 2 0 44] (zC 45 .skip (.exit 2))) (zQ (.join [⟨5,[.sl [.s,.s,.i .i64]],false⟩] 147573671114699702304 none (.block 3 (zS [ai 50 7,bV 48 2 0,Jk 51 49 50 3,bV 54 3 0,zHg 56 53 55] (zC 56 (zR [ai 61 7,xG 57 5 0,bV 59 2 0,uJ 62 60 61 3 3,zIn 64 63,O_ 58 58 64 65 58 58 5 65 5 5 0]) .skip)))) (zR [gJ 46 7 7]))))))) (zS [Bt 67 5 1 4 4 5] .ret))))))
def aeJ:aO:=⟨[.rd true qN,.rd true [.d,.d,.d]],(.one true qN)⟩
def aeK:aN:=aG []
def Qn (n:Nat):(List (ByteArray × ByteArray × Int)) × (ByteArray × ByteArray × Int)->Option ((List (ByteArray × ByteArray × Int)) × Unit):=aI n aeK aeI [[.sl [.s,.s,.i .i64]],[.s,.s,.i .i64]] [.sl [.s,.s,.i .i64]] [] [4] .no
def BF:=Qn BIG
def aeL:TSp:=⟨aeJ,[[.sl [.s,.s,.i .i64]],[.s,.s,.i .i64]],[.sl [.s,.s,.i .i64]],[],Ou.j .no,BF⟩
theorem atW:zK aeK 52 aeJ aeI 68 .no [4]:=by show _=_;kernel_rfl
theorem aqs:aeL.Ok PG 52:=aV (ax PG) atW (by kernel_rfl)
theorem atX (n) (a0) (a1):Qn n (a0,a1) = (aU n (X:=(List (ByteArray × ByteArray × Int)) × Int) (B:=(List (ByteArray × ByteArray × Int))) (fun self1 x0=> bif decide (x0.2<(a0.length:Int)) then (bnd a0.length x0.2 fun n2=> a0[n2]?.bind fun y3=> bif Op.bytesLess y3.1.toList a1.1.toList then bnd a0.length x0.2 fun n4=> a0[n4]?.bind fun y5=> bif decide (x0.1.length+[y5].length<=4294967296) then some (x0.1++[y5]) else none else some x0.1:Option ((List (ByteArray × ByteArray × Int)))).bind fun x6=> self1 (x6,IntKind.wrap .i64 (x0.2+1)) else some x0.1) ([],(0:Int))).bind fun x7=> bif decide (x7.length+[a1].length<=4294967296) then (aU n (X:=(List (ByteArray × ByteArray × Int)) × Int) (B:=(List (ByteArray × ByteArray × Int))) (fun self9 x8=> bif decide (x8.2<(a0.length:Int)) then (bnd a0.length x8.2 fun n10=> a0[n10]?.bind fun y11=> bif !(Op.bytesLess y11.1.toList a1.1.toList || y11.1.toList == a1.1.toList) then bnd a0.length x8.2 fun n12=> a0[n12]?.bind fun y13=> bif decide (x8.1.length+[y13].length<=4294967296) then some (x8.1++[y13]) else none else some x8.1:Option ((List (ByteArray × ByteArray × Int)))).bind fun x14=> self9 (x14,IntKind.wrap .i64 (x8.2+1)) else some x8.1) (x7++[a1],(0:Int))).bind fun x15=> some (x15,()) else none:=by kernel_rfl
def Np:TC:=
 (zS [ek 2 0,Br 4 1000000005] (zS [MX 7,Br 5 1000000006,mX 5 7 5 7] (zQ (.join [⟨5,[.sl [.s,.s,.i .i64]],false⟩] 8589934432 none (zS [bN 6] (.block 0 (.loop [⟨5,[.sl [.s,.s,.i .i64]],false⟩,⟨6,[.i .i64],false⟩] 8589934432 (zQ (zS [ai 8 6,lm 9 2 0 9,qZ 11 10 8] (zC 12 .skip (.exit 0))) (zQ (.join [⟨5,[.sl [.s,.s,.i .i64]],false⟩] 8589901856 none (.block 1 (zS [xK 15 2 0 6,Jk 18 16 17 3,ai 21 1,X0 22 20 21] (zC 22 (zR [ai 27 6,xG 23 5 0,bV 25 2 0,uJ 28 26 27 3 3,zIn 30 29,O_ 24 24 30 31 24 24 5 31 5 5 0]) .skip)))) (zR [gJ 13 6 6]))))))) (zS [Bt 33 5 1 4 4 5] .ret))))
def Nq:aO:=⟨[.rd true qN,.rd false [.d]],(.one true qN)⟩
def Nr:aN:=aG []
def Cf (n:Nat):(List (ByteArray × ByteArray × Int)) × ByteArray->Option ((List (ByteArray × ByteArray × Int)) × Unit):=aI n Nr Np [[.sl [.s,.s,.i .i64]],[.s]] [.sl [.s,.s,.i .i64]] [] [4] .no
def vo:=Cf BIG
def Ns:TSp:=⟨Nq,[[.sl [.s,.s,.i .i64]],[.s]],[.sl [.s,.s,.i .i64]],[],Ou.j .no,vo⟩
theorem af3:zK Nr 53 Nq Np 34 .no [4]:=by show _=_;kernel_rfl
theorem acF:Ns.Ok PG 53:=aV (ax PG) af3 (by kernel_rfl)
theorem af4 (n) (a0) (a1):Cf n (a0,a1) = (aU n (X:=(List (ByteArray × ByteArray × Int)) × Int) (B:=(List (ByteArray × ByteArray × Int))) (fun self1 x0=> bif decide (x0.2<(a0.length:Int)) then (bnd a0.length x0.2 fun n2=> a0[n2]?.bind fun y3=> bif !(y3.1.toList == a1.toList) then bnd a0.length x0.2 fun n4=> a0[n4]?.bind fun y5=> bif decide (x0.1.length+[y5].length<=4294967296) then some (x0.1++[y5]) else none else some x0.1:Option ((List (ByteArray × ByteArray × Int)))).bind fun x6=> self1 (x6,IntKind.wrap .i64 (x0.2+1)) else some x0.1) ([],(0:Int))).bind fun x7=> some (x7,()):=by kernel_rfl
def aiS:TC:=
 (zS [ek 2 0,ek 3 1,Br 4 1000000005,bH 5] (zQ (.seq (.join [⟨37,[.b],false⟩] 274877906432 none (zR [eF 9 2 1,jH 10 29 9,Cw 11 10,pE 13 3 3 1 3,Jj 51 14 15 15 3,oh 16 15 3 12,pE 19 9 3 0 9,zIc 21 20 3 9,iL 22 21 9,wF 23 13 3 3,[o2 25 (.data (.bin .neq) [.t 24,.c (.string ⟨#[]⟩)]) 13 true],En 22 25 26 26 9 18,ai 28 27,qi 29 19 3 0,zIc 31 30 1 19,iL 32 31 19,wF 33 23 3 2,[o2 35 (.data (.bin .neq) [.t 34,.c (.string ⟨#[]⟩)]) 23 true],En 32 35 36 36 19 28])) (zC 37 (zS [MX 38,Bv 4 38 4 38] .ret) .skip)) (zS [eF 39 2 1,bV 40 3 1,lQ 42 26 39 41,ai 6 42] (zS [bV 43 3 1,[o1 45 (.build [.s,.s,.i .i64] [(0,.t 44)]),o5 (.a (.c [.s,.s,.i .i64] [.string ⟨#[]⟩,.string ⟨#[]⟩,kV 0])) 7 1000000008],jW 7 7 45] (zQ (.join [⟨7,[.s,.s,.i .i64],false⟩] 8936830510563456 none (zS [ai 46 6,zHp 47 46] (zC 47 (zR [xK 48 2 0 6,uJ 51 49 50 3 3,jW 7 7 52]) .skip))) (zS [MX 53,Br 8 1000000009,mX 8 53 8 53] (zQ (.join [⟨8,[.sl [.s,.s,.i .i64]],false⟩,⟨4,[.sl [.s,.s,.i .i64]],false⟩] 21267647932558653966442898565976031664 (some [⟨4,[.sl [.s,.s,.i .i64]],false⟩,⟨5,[.b],false⟩]) (.block 0 (zS [bV 56 3 0,xI 58 57 1 55] (zC 55 (zS [Bu 59 7 1 3 2,wE 63 60 62,xJ 64 7 7 1 63] (zR [eF 65 2 1,Jo 66 7 3 52 65,mX 8 67 8 67])) (zS [ai 69 6,zGx 70 69 0,ai 68 70] (zC 68 (zS [MX 71,Bv 4 71 4 71] .ret) (zS [bV 73 3 0,xI 75 74 2 72] (zC 72 (zS [bV 76 7 1,r_ 78 77,xJ 79 7 7 2 78] (zR [eF 80 2 1,Jo 81 7 3 52 80,mX 8 82 8 82])) (zS [bV 84 3 0,xI 86 85 3 83] (zC 83 (zQ (.seq (.join [⟨105,[.b],false⟩] 81129483672101771023254642753536 none (zR [Bu 87 7 2 7 1,r_ 91 90,mf 92 88 91,ai 93 92,pE 94 6 3 3 6,pE 96 6 3 1 6,zDw 98 95 97 6,Jn 93 98 99,qi 101 13 3 3,Jj 51 102 103 103 13,uH 104 103 13 100])) (zC 105 (zS [MX 106,Bv 4 106 4 106] .ret) .skip)) (zS [bV 107 3 3,xJ 109 7 7 0 108] (zR [eF 110 2 1,bV 111 3 1,lQ 113 53 110 112,Jo 114 7 3 52 113,mX 8 115 8 115]))) (zS [bV 117 3 0,xI 119 118 4 116] (zC 116 (zR [eF 120 2 1,bV 121 3 1,lQ 123 53 120 122,mX 8 123 8 123]) (zS [MX 54,Bv 4 54 4 54] .ret))))))))))))) (zQ (zS [lS 124 8 1,jH 125 29 124,jr 126 125] (zC 126 (zS [MX 127,Bv 4 127 4 127] .ret) .skip)) (zS [lS 128 8 1,zIo 128 4 128 4 128 128 8 124,ic 5] .ret)))))))))
def aiT:aO:=⟨[.rd true qN,.rd true [.d,.d,.d,.d]],(.tup [(true,1),(false,1)] Ct9)⟩
def aiU:aN:=aG [(29,GG),(51,LG),(26,Wn),(52,aeL),(53,Ns)]
def sD (n:Nat):(List (ByteArray × ByteArray × Int)) × VV->Option ((List (ByteArray × ByteArray × Int) × Bool) × Unit):=aI n aiU aiS [[.sl [.s,.s,.i .i64]],[.i .i64,.s,.s,.s]] acn [] [4,5] .no
def n_:=sD BIG
def aiV:TSp:=⟨aiT,[[.sl [.s,.s,.i .i64]],[.i .i64,.s,.s,.s]],acn,[],Ou.j .no,n_⟩
theorem awL:zK aiU 20 aiT aiS 129 .no [4,5]:=by show _=_;kernel_rfl
theorem atY:aiV.Ok PG 20:=aV (ae LH (ae UG (ae aeH (ae aqs (ae acF (ax PG)))))) awL (by kernel_rfl)
theorem Aa (n) (a0) (a1):sD n (a0,a1) = ((sw a0).bind fun r0=> bif !r0.1 then some true else (tO a1.2.1).bind fun r1=> bif !r1.1 then some true else bif !decide (a1.1=3) then bif !(a1.2.2.2.toList == (ByteArray.mk #[]).toList) then some true else bif !decide (a1.1=1) then some (!(a1.2.2.1.toList == (ByteArray.mk #[]).toList)) else some false else bif !decide (a1.1=1) then some (!(a1.2.2.1.toList == (ByteArray.mk #[]).toList)) else some false).bind fun x2=> bif x2 then some (([],false),()) else (LJ (a0,a1.2.1)).bind fun r3=> (bif decide (0<=r3.1) then bnd a0.length r3.1 fun n4=> a0[n4]?.bind fun y5=> some y5 else some (a1.2.1,ByteArray.empty,(0:Int))).bind fun x6=> (bif decide (a1.1=1) then bif decide (x6.2.1.size+a1.2.2.1.size<=4611686018427387904) then (BF (a0,(x6.1,x6.2.1++a1.2.2.1,x6.2.2))).bind fun r7=> some (Sum.inl (r7.1,[])) else none else bif decide (r3.1<0) then some (Sum.inr ([],false)) else bif decide (a1.1=2) then (BF (a0,(x6.1,x6.2.1,(x6.2.1.size:Int)))).bind fun r8=> some (Sum.inl (r8.1,[])) else bif decide (a1.1=3) then (bif decide (x6.2.2<(x6.2.1.size:Int)) then some true else bif a1.2.2.2.toList == a1.2.1.toList then some true else (tO a1.2.2.2).bind fun r9=> some !r9.1).bind fun x10=> bif x10 then some (Sum.inr ([],false)) else (vo (a0,a1.2.1)).bind fun r11=> (BF (r11.1,(a1.2.2.2,x6.2))).bind fun r12=> some (Sum.inl (r12.1,[])) else bif decide (a1.1=4) then (vo (a0,a1.2.1)).bind fun r13=> some (Sum.inl (r13.1,[])) else some (Sum.inr ([],false)):Option (((List (ByteArray × ByteArray × Int)) × (List (ByteArray × ByteArray × Int))) ⊕ ((List (ByteArray × ByteArray × Int)) × Bool))).bind fun y=>match y with | .inl x14=> (sw x14.1).bind fun r15=> bif !r15.1 then some (([],false),()) else some ((x14.1,true),()) | .inr x14=> some (x14,()):=by kernel_rfl
def aeM:TC:=
 (zS [ek 2 0,Br 4 1000000005,bN 5] (zS [[o1 10 (.sli [.s,.s,.i .i64] [])],bV 11 2 0,yU 10 12 13 10,[o5 (.build [.sl [.s,.s,.i .i64]] [(0,.t 13)]) 14 13],Br 6 1000000007,mX 6 14 6 14] (zQ (.join [⟨4,[.sl [.s,.s,.i .i64]],false⟩,⟨6,[.sl [.s,.s,.i .i64]],false⟩] 34359706608 (some [⟨4,[.sl [.s,.s,.i .i64]],false⟩,⟨5,[.i .i64],false⟩]) (zS [bN 7] (.block 0 (.loop [⟨4,[.sl [.s,.s,.i .i64]],false⟩,⟨6,[.sl [.s,.s,.i .i64]],false⟩,⟨7,[.i .i64],false⟩] 34359706608 (zQ (zS [Jl 15 7 1] (zC 18 .skip (.exit 0))) (zQ (.block 1 (zS [dC 23 1 7,O3 1000000009 6 22 22,zGn 1000000009 23 24 25 25,zGo 1000000009 23 4 25 4 26 26,zHh 1000000009 20 22 26 27 27,zKy 1000000009 2 27 21 27 21 1 1,Br 8 1000000009,xH 8 28 8 28] (zQ (zS [ai 30 9,jr 31 30] (zC 31 (zS [lS 32 6 1,ai 33 7,zIo 32 4 32 4 32 32 6 22,ai 5 33] .ret) .skip)) (zR [lS 34 8 1,zIo 34 6 34 6 34 34 8 22])))) (zR [gJ 19 7 7]))))))) (zS [lS 35 6 1,ai 36 1,mJ 37 36,zBz 35 4 35 4 35 35 6,ai 5 37] .ret))))
def aeN:aO:=⟨[.rd true qN,.rd false Ct8],(.tup [(true,1),(false,1)] Ct9)⟩
def aeO:aN:=aG [(20,aiV)]
def Qo (n:Nat):(List (ByteArray × ByteArray × Int)) × (List VV)->Option ((List (ByteArray × ByteArray × Int) × Int) × Unit):=aI n aeO aeM [[.sl [.s,.s,.i .i64]],acm] [.sl [.s,.s,.i .i64],.i .i64] [] [4,5] .no
def wN:=Qo BIG
def Qp:TSp:=⟨aeN,[[.sl [.s,.s,.i .i64]],acm],[.sl [.s,.s,.i .i64],.i .i64],[],Ou.j .no,wN⟩
theorem atZ:zK aeO 7 aeN aeM 38 .no [4,5]:=by show _=_;kernel_rfl
theorem Z6:Qp.Ok PG 7:=aV (ae atY (ax PG)) atZ (by kernel_rfl)
theorem at0 (n) (a0) (a1):Qo n (a0,a1) = bif decide (0+a0.length<=4294967296) then (aU n (X:=(List (ByteArray × ByteArray × Int)) × (List (ByteArray × ByteArray × Int)) × Int) (B:=((List (ByteArray × ByteArray × Int)) × (List (ByteArray × ByteArray × Int))) ⊕ ((List (ByteArray × ByteArray × Int)) × Int)) (fun self1 x0=> bif decide (x0.2.2<(a1.length:Int)) then bnd a1.length x0.2.2 fun n2=> a1[n2]?.bind fun y3=> (n_ (x0.2.1,y3)).bind fun r4=> bif !r4.1.2 then some (Sum.inr (x0.2.1,x0.2.2)) else self1 (x0.1,r4.1.1,IntKind.wrap .i64 (x0.2.2+1)) else some (Sum.inl (x0.1,x0.2.1))) ([],[]++a0,(0:Int))).bind fun y=>match y with | .inl x5=> some ((x5.2,(a1.length:Int)),()) | .inr x5=> some (x5,()) else none:=by kernel_rfl
def ayv:TC:=
 (zS [bH 6] (zQ (.join [⟨6,[.b],false⟩] 32704 none (zR [dC 7 0 1,zAE 9 7 8,M6 10 9 0 3,ik 12 2 3,zBa,ql 10 13 14 6])) .ret))
def ayw:aO:=⟨[.rd false [.d],.rd false [.d],.rd false [.d]],(.one false [.d])⟩
def ayx:aN:=aG []
def aqt (n:Nat):Int × Int × Int->Option ((Bool) × Unit):=aI n ayx ayv [[.i .i64],[.i .i64],[.i .i64]] [.b] [] [6] .no
def kE:=aqt BIG
def tQ:TSp:=⟨ayw,[[.i .i64],[.i .i64],[.i .i64]],[.b],[],Ou.j .no,kE⟩
theorem aD_:zK ayx 54 ayw ayv 15 .no [6]:=by show _=_;kernel_rfl
theorem qm:tQ.Ok PG 54:=aV (ax PG) aD_ (by kernel_rfl)
theorem aEa (n) (a0) (a1) (a2):aqt n (a0,a1,a2) = (bif decide (a1<=a0) then some (decide (a0<=a2)) else some false).bind fun x0=> some (x0,()):=by kernel_rfl
def aeP:TC:=
 (zS [nO 1 0] (zQ (.join [] 1125899906842620 (some [⟨2,[.b],false⟩]) (zS [lm 5 1 0 5,mJ 7 6,bN 8] (.block 0 (.loop [⟨8,[.i .i64],false⟩] 1125899906842396 (zS [mf 9 8 7] (zQ (zC 9 .skip (.exit 0)) (zQ (.join [] 562949953420316 (some [⟨2,[.b],false⟩]) (.block 1 (zS [ai 10 8,zLv 11 6 8 6 3 3,[o5 (.a (.c [.s,.s,.i .i64] [.string ⟨#[]⟩,.string ⟨#[]⟩,kV 0])) 4 1000000005],ai 3 10,jW 4 4 12] (zQ (.join [⟨48,[.b],false⟩] 562949953413120 none (zR [bV 13 4 0,r_ 15 14,ug 16 54 15 8,Cw 17 16,pE 19 5 4 1 5,zIj 21 20 5,Jh 22 21 20000 5,Jn 18 22 23,qi 25 11 4 2,qi 27 11 4 1,zIj 29 28 11,zEn 54 26 29 30 30 11,oh 31 30 11 24,iL 34 3 20,Jh 35 34 0 20,iL 36 35 20,wF 37 23 1 0,ik 39 3 23,Jg 40 39 23,Cv 41 38 40 23,Bq 42 41 23,O1 43 38 3 42 23,wF 44 23 4 0,zGs 46 43 45 23,En 36 46 47 47 20 33])) (zC 48 (zS [bH 2] .ret) .skip))))) (zR [xC 49 8,ai 8 49])))))))) (zS [TF 50 1 0,zAA 53 52 30,ai 2 53] .ret)))
def aeQ:aO:=⟨[.rd true qN],(.one false [.d])⟩
def aeR:aN:=aG [(54,tQ)]
def Qq (n:Nat):(List (ByteArray × ByteArray × Int))->Option ((Bool) × Unit):=aI n aeR aeP [[.sl [.s,.s,.i .i64]]] [.b] [] [2] .no
def Qr:=Qq BIG
def aeS:TSp:=⟨aeQ,[[.sl [.s,.s,.i .i64]]],[.b],[],Ou.j .no,Qr⟩
theorem at1:zK aeR 21 aeQ aeP 54 .no [2]:=by show _=_;kernel_rfl
theorem aqu:aeS.Ok PG 21:=aV (ae qm (ax PG)) at1 (by kernel_rfl)
theorem at5 (n) (a0):Qq n a0 =
 (aU n (X:=Int) (B:=(Unit) ⊕ (Bool)) (fun self1 x0=>
  bif decide (x0<(a0.length:Int)) then
   (bnd a0.length x0 fun n2=>
    a0[n2]?.bind fun y3=>
    ((kE ((y3.1.size:Int),(1:Int),(8:Int))).bind fun r4=>
     bif !r4.1 then
      some true
     else bif decide (20000<(y3.2.1.size:Int)) then
      some true
     else (kE (y3.2.2,(0:Int),(y3.2.1.size:Int))).bind fun r5=>
     bif !r5.1 then
      some true
     else bif decide (0<x0) then
      bnd a0.length (IntKind.wrap .i64 (x0-1)) fun n6=>
      a0[n6]?.bind fun y7=>
      some (!Op.bytesLess y7.1.toList y3.1.toList)
     else some false).bind fun x8=>
    bif x8 then
     some (Sum.inr false)
    else some (Sum.inl ())).bind fun y=>match y with
   | .inl x9=>
    self1 (IntKind.wrap .i64 (x0+1))
   | .inr x9=>
    some (Sum.inr x9)
  else some (Sum.inl ())) (0:Int)).bind fun y=>match y with
 | .inl x10=>
  some (decide ((a0.length:Int)<=30),())
 | .inr x10=>
  some (x10,()):=by kernel_rfl
def aeT:TC:=
 (zS [ek 2 0,bN 4] (zQ (.join [] 2097136 (some [⟨4,[.i .i64],false⟩]) (zS [lm 7 2 0 7,mJ 9 8,bN 10] (.block 0 (.loop [⟨10,[.i .i64],false⟩] 2096240 (zS [mf 11 10 9] (zQ (zC 11 .skip (.exit 0)) (zQ (.block 1 (zS [ai 12 10,zLv 13 8 10 8 3 3,[o5 (.a (.c [.s,.s,.i .i64] [.string ⟨#[]⟩,.string ⟨#[]⟩,kV 0])) 6 1000000007],ai 5 12,jW 6 6 14] (zS [xK 15 6 0 1,Bp 18 16 17] (zC 18 (zS [yZ 19 5 4] .ret) .skip)))) (zR [xC 20 10,ai 10 20])))))))) (zS [zEf 4] .ret)))
def aeU:aO:=⟨[.rd true qN,.rd false [.d]],(.one false [.d])⟩
def aeV:aN:=aG []
def Qs (n:Nat):(List (ByteArray × ByteArray × Int)) × ByteArray->Option ((Int) × Unit):=aI n aeV aeT [[.sl [.s,.s,.i .i64]],[.s]] [.i .i64] [] [4] .no
def GH:=Qs BIG
def Qt:TSp:=⟨aeU,[[.sl [.s,.s,.i .i64]],[.s]],[.i .i64],[],Ou.j .no,GH⟩
theorem at6:zK aeV 23 aeU aeT 21 .no [4]:=by show _=_;kernel_rfl
theorem Z7:Qt.Ok PG 23:=aV (ax PG) at6 (by kernel_rfl)
theorem at7 (n) (a0) (a1):Qs n (a0,a1) = (aU n (X:=Int) (B:=(Unit) ⊕ (Int)) (fun self1 x0=> bif decide (x0<(a0.length:Int)) then bnd a0.length x0 fun n2=> a0[n2]?.bind fun y3=> bif y3.1.toList == a1.toList then some (Sum.inr x0) else self1 (IntKind.wrap .i64 (x0+1)) else some (Sum.inl ())) (0:Int)).bind fun y=>match y with | .inl x4=> some ((-1:Int),()) | .inr x4=> some (x4,()):=by kernel_rfl
def aeW:TC:=
 (zS [ek 2 0,[o1 4 (.lit [.s] [.string ⟨#[]⟩])],bH 5] (zS [eF 7 2 1,ai 8 1,lQ 9 23 7 8,ai 6 9] (zQ (zS [ai 10 6,zGx 11 10 0] (zC 11 (zS [[o1 4 (.lit [.s] [.string ⟨#[]⟩])],bH 5] .ret) .skip)) (zS [xK 12 2 0 6,O5 15 13 14 3 1,ai 4 17,ic 5] .ret))))
def aeX:aO:=⟨[.rd true qN,.rd false [.d]],(.tup [(false,1),(false,1)] [.d,.d])⟩
def aeY:aN:=aG [(23,Qt)]
def Qu (n:Nat):(List (ByteArray × ByteArray × Int)) × ByteArray->Option ((ByteArray × Bool) × Unit):=aI n aeY aeW [[.sl [.s,.s,.i .i64]],[.s]] [.s,.b] [] [4,5] .no
def Qv:=Qu BIG
def aeZ:TSp:=⟨aeX,[[.sl [.s,.s,.i .i64]],[.s]],[.s,.b],[],Ou.j .no,Qv⟩
theorem aua:zK aeY 22 aeX aeW 18 .no [4,5]:=by show _=_;kernel_rfl
theorem aqv:aeZ.Ok PG 22:=aV (ae Z7 (ax PG)) aua (by kernel_rfl)
theorem aub (n) (a0) (a1):Qu n (a0,a1) = (GH (a0,a1)).bind fun r0=> bif decide (r0.1<0) then some (((ByteArray.mk #[]),false),()) else bnd a0.length r0.1 fun n1=> a0[n1]?.bind fun y2=> some ((y2.2.1,true),()):=by kernel_rfl
def Z8:TC:=
 (zS [bN 4,bN 5,bH 6] (zQ (zS [dC 11 1 0,r_ 13 12,zEa 14 54 11 13,jr 15 14] (zC 15 (zS [bN 4,bN 5,bH 6] .ret) .skip)) (zS [bN 7,uh 8 1] (zQ (.join [] 144115188075792368 (some [⟨4,[.i .i64],false⟩,⟨5,[.i .i64],false⟩,⟨6,[.b],false⟩]) (zS [yZ 16 1 9] (.block 0 (.loop [⟨7,[.i .i64],false⟩,⟨8,[.i .i64],false⟩,⟨9,[.i .i64],false⟩] 144115188075726832 (zQ (.seq (.join [⟨26,[.b],false⟩] 134086656 none (zR [dC 17 9 0,r_ 19 18,mf 20 17 19,M6 21 20 9 4,ik 23 1 4,zEt 24 23 5 4,zDt 25 22 24 4,Bl 21 25 26])) (zC 26 .skip (.exit 0))) (zQ (.block 1 (zS [dC 29 0 9,zIe 31 29 30,zAn 32 31,ai 10 32] (zS [dC 33 7 10,zHC 35 34,ai 36 8,[o1 37 (.data (.bin .mul) [.t 35,.t 36])],wE 38 33 37,ai 7 38] (zS [ai 39 8,zAj 40 39 128,ai 8 40] (zS [ai 41 10,zGx 42 41 128] (zC 42 (zQ (.seq (.join [⟨53,[.b],false⟩] 18005602416459776 none (zR [ai 43 10,yV 44 43 0,M6 45 44 9 2,ik 47 1 2,zGD 48 46 47 2,lT 45 48 49,iL 51 7 7,Jh 52 51 1000000000 7,xD 50 52 53])) (zC 53 (.exit 0) .skip)) (zS [dC 54 7 9,xC 56 55,ai 4 54,ai 5 56,ic 6] .ret)) .skip)))))) (zR [gJ 27 9 9]))))))) (zS [bN 4,bN 5,bH 6] .ret)))))
def Z9:aO:=⟨[.rd false [.d],.rd false [.d]],(.tup [(false,1),(false,1),(false,1)] [.d,.d,.d])⟩
def Z_:aN:=aG [(54,tQ)]
def LK (n:Nat):ByteArray × Int->Option ((Int × Int × Bool) × Unit):=aI n Z_ Z8 [[.s],[.i .i64]] [.i .i64,.i .i64,.b] [] [4,5,6] .no
def yl:=LK BIG
def Dw:TSp:=⟨Z9,[[.s],[.i .i64]],[.i .i64,.i .i64,.b],[],Ou.j .no,yl⟩
theorem aqw:zK Z_ 63 Z9 Z8 57 .no [4,5,6]:=by show _=_;kernel_rfl
theorem Iw:Dw.Ok PG 63:=aV (ae qm (ax PG)) aqw (by kernel_rfl)
theorem aqx (n) (a0) (a1):LK n (a0,a1) = (kE (a1,(0:Int),(a0.size:Int))).bind fun r0=> bif !r0.1 then some (((0:Int),(0:Int),false),()) else (aU n (X:=Int × Int × Int) (B:=(Unit) ⊕ (Int × Int × Bool)) (fun self2 x1=> (bif decide (x1.2.2<(a0.size:Int)) then some (decide (x1.2.2<(IntKind.wrap .i64 (a1+5)))) else some false).bind fun x3=> bif x3 then bnd a0.size x1.2.2 fun n4=>a0[n4]?.bind fun b5=> bif decide ((128:Int)=0) then none else bif decide ((IntKind.wrap .i64 ((b5.toNat:Int)))<128) then (bif decide ((IntKind.wrap .i64 ((b5.toNat:Int)))=0) then bif decide (a1<x1.2.2) then some true else some (decide (1000000000<(IntKind.wrap .i64 (x1.1+(IntKind.wrap .i64 ((Int.tmod (IntKind.wrap .i64 ((b5.toNat:Int))) (128:Int))*x1.2.1)))))) else some (decide (1000000000<(IntKind.wrap .i64 (x1.1+(IntKind.wrap .i64 ((Int.tmod (IntKind.wrap .i64 ((b5.toNat:Int))) (128:Int))*x1.2.1))))))).bind fun x6=> bif x6 then some (Sum.inl ()) else some (Sum.inr (IntKind.wrap .i64 (x1.1+(IntKind.wrap .i64 ((Int.tmod (IntKind.wrap .i64 ((b5.toNat:Int))) (128:Int))*x1.2.1))),IntKind.wrap .i64 (x1.2.2+1),true)) else self2 (IntKind.wrap .i64 (x1.1+(IntKind.wrap .i64 ((Int.tmod (IntKind.wrap .i64 ((b5.toNat:Int))) (128:Int))*x1.2.1))),IntKind.wrap .i64 (x1.2.1*(128:Int)),IntKind.wrap .i64 (x1.2.2+1)) else some (Sum.inl ())) ((0:Int),(1:Int),a1)).bind fun y=>match y with | .inl x7=> some (((0:Int),(0:Int),false),()) | .inr x7=> some (x7,()):=by kernel_rfl
def aaa:TC:=
 (zS [[o1 2 (.lit [.s] [.string ⟨#[]⟩])],bH 3] (zQ (zS [ai 5 0,zGB 6 54 5 0 1000000000,jr 7 6] (zC 7 (zS [[o1 2 (.lit [.s] [.string ⟨#[]⟩])],bH 3] .ret) .skip)) (zS [[o1 4 (.lit [.sl [.i .u8]] [.slice none 0 0])]] (zQ (.join [⟨4,[.sl [.i .u8]],false⟩,⟨0,[.i .i64],false⟩] 524049 none (.block 0 (.loop [⟨4,[.sl [.i .u8]],false⟩,⟨0,[.i .i64],false⟩] 524049 (zQ (zS [ai 8 0,El 9 8 127] (zC 9 .skip (.exit 0))) (.block 1 (zS [dh 4 10 4,ai 11 0,zHC 12 11,zAp 13 12 128,yX 14 13,zHE 15 14,F_ 10 15 16 10 4] (zR [ai 17 0,zDc 18 17 128,ai 0 18]))))))) (zS [dh 4 19 4,ai 20 0,yX 21 20,zHE 22 21,yU 19 22 23 19,X5 24 23,ai 2 24,ic 3] .ret)))))
def aab:aO:=⟨[.rd false [.d]],(.tup [(false,1),(false,1)] [.d,.d])⟩
def aac:aN:=aG [(54,tQ)]
def LM (n:Nat):Int->Option ((ByteArray × Bool) × Unit):=aI n aac aaa [[.i .i64]] [.s,.b] [] [2,3] .no
def jY:=LM BIG
def nQ:TSp:=⟨aab,[[.i .i64]],[.s,.b],[],Ou.j .no,jY⟩
theorem aqy:zK aac 58 aab aaa 25 .no [2,3]:=by show _=_;kernel_rfl
theorem og:nQ.Ok PG 58:=aV (ae qm (ax PG)) aqy (by kernel_rfl)
theorem aqz (n) (a0):LM n a0 = (kE (a0,(0:Int),(1000000000:Int))).bind fun r0=> bif !r0.1 then some (((ByteArray.mk #[]),false),()) else (aU n (X:=(List Int) × Int) (B:=(List Int) × Int) (fun self2 x1=> bif decide (127<x1.2) then bif decide ((128:Int)=0) then none else bif decide (x1.1.length+([IntKind.wrap .u8 (IntKind.wrap .i64 ((Int.tmod x1.2 (128:Int))+128))]).length<=4294967296) then bif decide ((128:Int)=0) then none else self2 (x1.1++([IntKind.wrap .u8 (IntKind.wrap .i64 ((Int.tmod x1.2 (128:Int))+128))]),IntKind.wrap .i64 (Int.tdiv x1.2 (128:Int))) else none else some (x1.1,x1.2)) ([],a0)).bind fun x3=> bif decide (x3.1.length+([IntKind.wrap .u8 (x3.2)]).length<=4294967296) then some ((dW (x3.1++([IntKind.wrap .u8 (x3.2)])),true),()) else none:=by kernel_rfl
def aad:TC:=
 (zS [zId 4] (zQ (.join [⟨0,[.i .u32],false⟩] 1073741793 none (zS [ai 7 1,r_ 8 7,bN 9] (.block 0 (.loop [⟨0,[.i .u32],false⟩,⟨9,[.i .i64],false⟩] 1073741409 (zS [mf 10 9 8] (zQ (zC 10 .skip (.exit 0)) (zQ (.join [⟨0,[.i .u32],false⟩] 536868961 none (.block 1 (zS [yZ 11 9 5] (zS [dC 12 0 1,ai 14 5,zIe 15 13 14,[o1 16 (.data (.conv .u32) [.t 15])],zAz 17 12 16,ai 0 17] (zS [bN 18] (.block 2 (.loop [⟨0,[.i .u32],false⟩,⟨18,[.i .i64],false⟩] 536608833 (zS [zGx 19 18 8] (zQ (zC 19 .skip (.exit 2)) (zQ (.join [⟨0,[.i .u32],false⟩] 267386945 none (.block 3 (zS [ai 20 0,[o1 21 (.data (.bin .and) [.t 20,.c (.int .u32 (1))])],zIf 22 21,ai 6 22] (zS [ai 23 0,XV 24 23 1,ai 0 24] (zS [ai 25 6] (zC 25 (zR [ai 26 0,zIg 27 26,ai 0 27]) .skip)))))) (zR [xC 28 18,ai 18 28]))))))))))) (zR [xC 29 9,ai 9 29])))))))) (zS [yZ 30 0 4] .ret)))
def aae:aO:=⟨[.rd false [.d],.rd false [.d]],(.one false [.d])⟩
def aaf:aN:=aG []
def LP (n:Nat):Int × ByteArray->Option ((Int) × Unit):=aI n aaf aad [[.i .u32],[.s]] [.i .u32] [] [4] .no
def LQ:=LP BIG
def aag:TSp:=⟨aae,[[.i .u32],[.s]],[.i .u32],[],Ou.j .no,LQ⟩
theorem aqA:zK aaf 100 aae aad 31 .no [4]:=by show _=_;kernel_rfl
theorem alC:aag.Ok PG 100:=aV (ax PG) aqA (by kernel_rfl)
theorem aqB (n) (a0) (a1):LP n (a0,a1) = (aU n (X:=Int × Int) (B:=Int) (fun self1 x0=> bif decide (x0.2<(a1.size:Int)) then (bnd a1.size x0.2 fun n2=>a1[n2]?.bind fun b3=> aU n (X:=Int × Int) (B:=Int) (fun self5 x4=> bif decide (x4.2<8) then (bif decide ((1:Int)<0) then none else bif decide ((bits .and .u32 x4.1 (1:Int))=1) then some (bits .xor .u32 (Int.fdiv x4.1 (2 ^ (Nat.min (Int.toNat (1:Int)) (IntKind.bits .u32)))) (3558460437:Int)) else some (Int.fdiv x4.1 (2 ^ (Nat.min (Int.toNat (1:Int)) (IntKind.bits .u32)))):Option (Int)).bind fun x6=> self5 (x6,IntKind.wrap .i64 (x4.2+1)) else some x4.1) (bits .xor .u32 x0.1 (IntKind.wrap .u32 ((b3.toNat:Int))),(0:Int)):Option (Int)).bind fun x7=> self1 (x7,IntKind.wrap .i64 (x0.2+1)) else some x0.1) (a0,(0:Int))).bind fun x8=> some (x8,()):=by kernel_rfl
def aiW:TC:=
 (zS [zId 2] (zS [ai 3 0,zIh 100,ai 2 4] .ret))
def aiX:aO:=⟨[.rd false [.d]],(.one false [.d])⟩
def aiY:aN:=aG [(100,aag)]
def Wo (n:Nat):ByteArray->Option ((Int) × Unit):=aI n aiY aiW [[.s]] [.i .u32] [] [2] .no
def Wp:=Wo BIG
def aiZ:TSp:=⟨aiX,[[.s]],[.i .u32],[],Ou.j .no,Wp⟩
theorem awM:zK aiY 62 aiX aiW 5 .no [2]:=by show _=_;kernel_rfl
theorem auc:aiZ.Ok PG 62:=aV (ae alC (ax PG)) awM (by kernel_rfl)
theorem awN (n) (a0):Wo n a0 = (LQ ((4294967295:Int),a0)).bind fun r0=> some (r0.1,()):=by kernel_rfl
def ai0:TC:=
 (zS [[o1 2 (.lit [.s] [.string ⟨#[]⟩])],bH 3] (zQ (zS [ai 7 0,r_ 8 7,ug 9 54 8 9000,jr 10 9] (zC 10 (zS [[o1 2 (.lit [.s] [.string ⟨#[]⟩])],bH 3] .ret) .skip)) (zS [ai 12 0,r_ 13 12,O8 14 58 13 11 0 1 4] (zS [ai 17 0,jH 18 62 17,ai 6 18] (zS [dC 19 4 6,XV 21 20 24,yX 22 21,ai 23 6,XV 24 23 16,yX 25 24,ai 26 6,XV 27 26 8,yX 28 27,ai 29 6,yX 30 29,[o1 31 (.sli [.i .u8] [.t 22,.t 25,.t 28,.t 30])],X5 32 31,wE 33 19 32,X8 34 0 33,ai 2 35,ic 3] .ret)))))
def ai1:aO:=⟨[.rd false [.d]],(.tup [(false,1),(false,1)] [.d,.d])⟩
def ai2:aN:=aG [(54,tQ),(58,nQ),(62,aiZ)]
def Wq (n:Nat):ByteArray->Option ((ByteArray × Bool) × Unit):=aI n ai2 ai0 [[.s]] [.s,.b] [] [2,3] .no
def Ab:=Wq BIG
def Ws:TSp:=⟨ai1,[[.s]],[.s,.b],[],Ou.j .no,Ab⟩
theorem awO:zK ai2 25 ai1 ai0 36 .no [2,3]:=by show _=_;kernel_rfl
theorem ae0:Ws.Ok PG 25:=aV (ae qm (ae og (ae auc (ax PG)))) awO (by kernel_rfl)
theorem awP (n) (a0):Wq n a0 = (kE ((a0.size:Int),(1:Int),(9000:Int))).bind fun r0=> bif !r0.1 then some (((ByteArray.mk #[]),false),()) else (jY (a0.size:Int)).bind fun r1=> (Wp a0).bind fun r2=> bif decide ((24:Int)<0) then none else bif decide ((16:Int)<0) then none else bif decide ((8:Int)<0) then none else bif decide (r1.1.1.size+(dW ([IntKind.wrap .u8 (Int.fdiv r2.1 (2 ^ (Nat.min (Int.toNat (24:Int)) (IntKind.bits .u32)))),IntKind.wrap .u8 (Int.fdiv r2.1 (2 ^ (Nat.min (Int.toNat (16:Int)) (IntKind.bits .u32)))),IntKind.wrap .u8 (Int.fdiv r2.1 (2 ^ (Nat.min (Int.toNat (8:Int)) (IntKind.bits .u32)))),IntKind.wrap .u8 (r2.1)])).size<=4611686018427387904) then bif decide ((r1.1.1++(dW ([IntKind.wrap .u8 (Int.fdiv r2.1 (2 ^ (Nat.min (Int.toNat (24:Int)) (IntKind.bits .u32)))),IntKind.wrap .u8 (Int.fdiv r2.1 (2 ^ (Nat.min (Int.toNat (16:Int)) (IntKind.bits .u32)))),IntKind.wrap .u8 (Int.fdiv r2.1 (2 ^ (Nat.min (Int.toNat (8:Int)) (IntKind.bits .u32)))),IntKind.wrap .u8 (r2.1)]))).size+a0.size<=4611686018427387904) then some (((r1.1.1++(dW ([IntKind.wrap .u8 (Int.fdiv r2.1 (2 ^ (Nat.min (Int.toNat (24:Int)) (IntKind.bits .u32)))),IntKind.wrap .u8 (Int.fdiv r2.1 (2 ^ (Nat.min (Int.toNat (16:Int)) (IntKind.bits .u32)))),IntKind.wrap .u8 (Int.fdiv r2.1 (2 ^ (Nat.min (Int.toNat (8:Int)) (IntKind.bits .u32)))),IntKind.wrap .u8 (r2.1)])))++a0,true),()) else none else none:=by kernel_rfl
def aah:TC:=
 (zS [[o1 4 (.lit [.s] [.string ⟨#[]⟩])],bN 5,bH 6] (zS [dC 14 0 1,qj 16 63 14 15 13,zJq 17 13 0 1,mY 19 13 2,uI 7 17,ai 9 19] (zQ (.seq (.join [⟨35,[.b],false⟩] 68718428160 none (zR [ai 20 9,Gb 21 20 7 2,XX 54 23 9000 24 24 2,oh 25 24 2 22,iL 28 0 7,zIj 29 28 7,iL 30 8 7,[o2 31 (.data (.bin .sub) [.t 29,.t 30]) 7 false],iL 32 7 7,[o2 33 (.data (.bin .add) [kD 4,.t 32]) 7 false,o2 34 (.data (.bin .lss) [.t 31,.t 33]) 7 false],xD 27 34 35])) (zC 35 (zS [[o1 4 (.lit [.s] [.string ⟨#[]⟩])],bN 5,bH 6] .ret) .skip)) (zS [dC 36 0 8,zAp 38 37 4,ai 39 8,zAp 40 39 4,X8 41 7 40,zIq 43 36 38 42,ai 10 43] (zS [ai 45 10,O8 46 25 45 44 0 1 11] (zQ (zS [dC 49 11 0,dC 51 1 8,zAp 53 52 4,X8 54 7 53,zIq 56 50 51 55,X0 57 49 56] (zC 57 (zS [[o1 4 (.lit [.s] [.string ⟨#[]⟩])],bN 5,bH 6] .ret) .skip)) (zS [dC 58 10 8,zAp 60 59 4,X8 61 7 60,dC 4 58 62,ic 6] .ret)))))))
def aai:aO:=⟨[.rd false [.d],.rd false [.d]],(.tup [(false,1),(false,1),(false,1)] [.d,.d,.d])⟩
def aaj:aN:=aG [(63,Dw),(54,tQ),(25,Ws)]
def LU (n:Nat):ByteArray × Int->Option ((ByteArray × Int × Bool) × Unit):=aI n aaj aah [[.s],[.i .i64]] [.s,.i .i64,.b] [] [4,5,6] .no
def LV:=LU BIG
def aak:TSp:=⟨aai,[[.s],[.i .i64]],[.s,.i .i64,.b],[],Ou.j .no,LV⟩
theorem aqC:zK aaj 27 aai aah 63 .no [4,5,6]:=by show _=_;kernel_rfl
theorem alD:aak.Ok PG 27:=aV (ae Iw (ae qm (ae ae0 (ax PG)))) aqC (by kernel_rfl)
theorem aqD (n) (a0) (a1):LU n (a0,a1) = (yl (a0,a1)).bind fun r0=> (bif !r0.1.2.2 then some true else (kE (r0.1.1,(1:Int),(9000:Int))).bind fun r1=> bif !r1.1 then some true else some (decide ((IntKind.wrap .i64 ((a0.size:Int)-r0.1.2.1))<(IntKind.wrap .i64 ((4:Int)+r0.1.1))))).bind fun x2=> bif x2 then some (((ByteArray.mk #[]),(0:Int),false),()) else bif decide (0<=(IntKind.wrap .i64 (r0.1.2.1+4))/\(IntKind.wrap .i64 (r0.1.2.1+4))<=(IntKind.wrap .i64 ((IntKind.wrap .i64 (r0.1.2.1+4))+r0.1.1))/\(IntKind.wrap .i64 ((IntKind.wrap .i64 (r0.1.2.1+4))+r0.1.1))<=a0.size) then (Ab (a0.extract (Int.toNat (IntKind.wrap .i64 (r0.1.2.1+4))) (Int.toNat (IntKind.wrap .i64 ((IntKind.wrap .i64 (r0.1.2.1+4))+r0.1.1))))).bind fun r3=> bif decide (0<=a1/\a1<=(IntKind.wrap .i64 ((IntKind.wrap .i64 (r0.1.2.1+4))+r0.1.1))/\(IntKind.wrap .i64 ((IntKind.wrap .i64 (r0.1.2.1+4))+r0.1.1))<=a0.size) then bif !(r3.1.1.toList == (a0.extract (Int.toNat a1) (Int.toNat (IntKind.wrap .i64 ((IntKind.wrap .i64 (r0.1.2.1+4))+r0.1.1)))).toList) then some (((ByteArray.mk #[]),(0:Int),false),()) else some ((a0.extract (Int.toNat (IntKind.wrap .i64 (r0.1.2.1+4))) (Int.toNat (IntKind.wrap .i64 ((IntKind.wrap .i64 (r0.1.2.1+4))+r0.1.1))),IntKind.wrap .i64 ((IntKind.wrap .i64 (r0.1.2.1+4))+r0.1.1),true),()) else none else none:=by kernel_rfl
def Nt:TC:=
 (zS [bN 2] (zQ (.seq (.join [⟨18,[.b],false⟩] 524280 none (zR [dZ 3,Tw 4 3,Jf 5 4,Bn 6 0 2 5,ai 7 6,[o2 8 (.p0) 4 false],zIr 9 8 4,MW 10 9 4,OZ 11 0 1 10 4,[o2 12 (.p0) 4 false],zIr 13 12 4,MW 14 13 4,OZ 15 0 0 14 4,zIj 16 15 4,[o2 17 (.data (.bin .geq) [.t 11,.t 16]) 4 false],xD 7 17 18])) (zC 18 (zS [dZ 19,xF 20 19,zIs 21] (zS [bN 2] .ret)) .skip)) (zS [dZ 22,Eo 23 22 0 1,xC 26 25,xF 27 22,Tx 0 0 1 28 26] (zS [dZ 29,dZ 33,Eo 30 29 0 0,Eo 34 33 0 1,F8 37 36,zIe 38 32 37,zAn 39 38,ai 2 39] .ret))))
def Nu:aO:=⟨[.mp [.d,.d,.d]],(.one false [.d])⟩
def Nv:aN:=aG []
def Cg (n:Nat):(ByteArray × Int × Bool)->Option ((Int) × ByteArray × Int × Bool):=aI n Nv Nt [[.s,.i .i64,.b]] [.i .i64] [.s,.i .i64,.b] [2] (.mp 0)
def fH:=Cg BIG
def qo:TSp:=⟨Nu,[[.s,.i .i64,.b]],[.i .i64],[.s,.i .i64,.b],Ou.j (.mp 0),fH⟩
theorem af5:zK Nv 64 Nu Nt 40 (.mp 0) [2]:=by show _=_;kernel_rfl
theorem tT:qo.Ok PG 64:=aV (ax PG) af5 (by kernel_rfl)
theorem af6 (n) (a0):Cg n a0 = (bif a0.2.2 then some true else some (decide ((a0.1.size:Int)<=a0.2.1))).bind fun x0=> bif x0 then some ((0:Int),(a0.1,a0.2.1,true)) else bnd a0.1.size (IntKind.wrap .i64 ((IntKind.wrap .i64 (a0.2.1+1))-1)) fun n1=>a0.1[n1]?.bind fun b2=> some (IntKind.wrap .i64 ((b2.toNat:Int)),(a0.1,IntKind.wrap .i64 (a0.2.1+1),a0.2.2)):=by kernel_rfl
def Nw:TC:=
 (zS [bN 2] (zS [dZ 7,dZ 11,Tw 8 7,Jf 9 8,Bn 10 0 0 9,Eo 12 11 0 1,qj 15 63 10 14 6,mY 16 6 0,mY 17 6 1,mY 18 6 2,uI 3 16,ai 5 18] (zQ (.seq (.join [⟨26,[.b],false⟩] 133693440 none (zR [dZ 19,Eo 20 19 0 2,ai 23 22,iL 24 5 4,uH 25 24 4 23])) (zC 26 (zS [dZ 27,xF 28 27,zIs 29] (zS [bN 2] .ret)) .skip)) (zS [dZ 30,ai 31 4,xF 32 30,Tx 0 0 1 33 31] (zS [yZ 34 3 2] .ret)))))
def Ny:aO:=⟨[.mp [.d,.d,.d]],(.one false [.d])⟩
def Nz:aN:=aG [(63,Dw)]
def Ch (n:Nat):(ByteArray × Int × Bool)->Option ((Int) × ByteArray × Int × Bool):=aI n Nz Nw [[.s,.i .i64,.b]] [.i .i64] [.s,.i .i64,.b] [2] (.mp 0)
def eX:=Ch BIG
def qp:TSp:=⟨Ny,[[.s,.i .i64,.b]],[.i .i64],[.s,.i .i64,.b],Ou.j (.mp 0),eX⟩
theorem af7:zK Nz 65 Ny Nw 35 (.mp 0) [2]:=by show _=_;kernel_rfl
theorem tV:qp.Ok PG 65:=aV (ae Iw (ax PG)) af7 (by kernel_rfl)
theorem af8 (n) (a0):Ch n a0 = (yl (a0.1,a0.2.1)).bind fun r0=> (bif a0.2.2 then some true else some !r0.1.2.2).bind fun x1=> bif x1 then some ((0:Int),(a0.1,a0.2.1,true)) else some (r0.1.1,(a0.1,r0.1.2.1,a0.2.2)):=by kernel_rfl
def Qw:TC:=
 (zS [[o1 4 (.lit [.s] [.string ⟨#[]⟩])],bN 5,bH 6] (zS [dC 11 0 1,qj 13 63 11 12 10,zJq 14 10 0 1,mY 16 10 2,uI 7 14,ai 9 16] (zQ (.seq (.join [⟨30,[.b],false⟩] 2147352576 none (zR [ai 17 9,Gb 18 17 7 2,Jh 21 20 20000 2,Jn 19 21 22,iL 24 7 6,iL 25 0 6,zIj 26 25 6,iL 27 8 6,[o2 28 (.data (.bin .sub) [.t 26,.t 27]) 6 false,o2 29 (.data (.bin .gtr) [.t 24,.t 28]) 6 false],xD 23 29 30])) (zC 30 (zS [[o1 4 (.lit [.s] [.string ⟨#[]⟩])],bN 5,bH 6] .ret) .skip)) (zS [dC 31 0 8,dC 33 8 7,wE 35 33 34,zIq 36 31 32 35,dC 37 8 7,wE 39 37 38,dC 4 36 39,ic 6] .ret))))
def Qx:aO:=⟨[.rd false [.d],.rd false [.d]],(.tup [(false,1),(false,1),(false,1)] [.d,.d,.d])⟩
def Qy:aN:=aG [(63,Dw)]
def EZ (n:Nat):ByteArray × Int->Option ((ByteArray × Int × Bool) × Unit):=aI n Qy Qw [[.s],[.i .i64]] [.s,.i .i64,.b] [] [4,5,6] .no
def E5:=EZ BIG
def Qz:TSp:=⟨Qx,[[.s],[.i .i64]],[.s,.i .i64,.b],[],Ou.j .no,E5⟩
theorem ai3:zK Qy 102 Qx Qw 40 .no [4,5,6]:=by show _=_;kernel_rfl
theorem af9:Qz.Ok PG 102:=aV (ae Iw (ax PG)) ai3 (by kernel_rfl)
theorem ai4 (n) (a0) (a1):EZ n (a0,a1) = (yl (a0,a1)).bind fun r0=> (bif !r0.1.2.2 then some true else bif decide (20000<r0.1.1) then some true else some (decide ((IntKind.wrap .i64 ((a0.size:Int)-r0.1.2.1))<r0.1.1))).bind fun x1=> bif x1 then some (((ByteArray.mk #[]),(0:Int),false),()) else bif decide (0<=r0.1.2.1/\r0.1.2.1<=(IntKind.wrap .i64 (r0.1.2.1+r0.1.1))/\(IntKind.wrap .i64 (r0.1.2.1+r0.1.1))<=a0.size) then some ((a0.extract (Int.toNat r0.1.2.1) (Int.toNat (IntKind.wrap .i64 (r0.1.2.1+r0.1.1))),IntKind.wrap .i64 (r0.1.2.1+r0.1.1),true),()) else none:=by kernel_rfl
def GI:TC:=
 (zS [[o1 2 (.lit [.s] [.string ⟨#[]⟩])]] (zS [dZ 7,dZ 11,Tw 8 7,Jf 9 8,Bn 10 0 0 9,Eo 12 11 0 1,qj 15 102 10 14 6,mY 16 6 0,mY 17 6 1,mY 18 6 2,uI 3 16,ai 5 18] (zQ (.seq (.join [⟨26,[.b],false⟩] 133693440 none (zR [dZ 19,Eo 20 19 0 2,ai 23 22,iL 24 5 4,uH 25 24 4 23])) (zC 26 (zS [dZ 27,xF 28 27,zIs 29] (zS [[o1 2 (.lit [.s] [.string ⟨#[]⟩])]] .ret)) .skip)) (zS [dZ 30,ai 31 4,xF 32 30,Tx 0 0 1 33 31] (zS [yZ 34 3 2] .ret)))))
def GJ:aO:=⟨[.mp [.d,.d,.d]],(.one false [.d])⟩
def GK:aN:=aG [(102,Qz)]
def ym (n:Nat):(ByteArray × Int × Bool)->Option ((ByteArray) × ByteArray × Int × Bool):=aI n GK GI [[.s,.i .i64,.b]] [.s] [.s,.i .i64,.b] [2] (.mp 0)
def ry:=ym BIG
def GL:TSp:=⟨GJ,[[.s,.i .i64,.b]],[.s],[.s,.i .i64,.b],Ou.j (.mp 0),ry⟩
theorem aal:zK GK 67 GJ GI 35 (.mp 0) [2]:=by show _=_;kernel_rfl
theorem Wt:GL.Ok PG 67:=aV (ae af9 (ax PG)) aal (by kernel_rfl)
theorem aam (n) (a0):ym n a0 = (E5 (a0.1,a0.2.1)).bind fun r0=> (bif a0.2.2 then some true else some !r0.1.2.2).bind fun x1=> bif x1 then some ((ByteArray.mk #[]),(a0.1,a0.2.1,true)) else some (r0.1.1,(a0.1,r0.1.2.1,a0.2.2)):=by kernel_rfl
def GM:TC:=
 (zS [zGc 2] (zS [zGc 3] (zS [Yb 7 65 0 0,ai 4 8] (zQ (.join [⟨0,[.s,.i .i64,.b],false⟩,⟨3,[.sl [.i .i64,.i .i64]],false⟩] 1073741433 none (.block 0 (.loop [⟨0,[.s,.i .i64,.b],false⟩,⟨3,[.sl [.i .i64,.i .i64]],false⟩,⟨4,[.i .i64],false⟩] 1073741433 (zQ (.seq (.join [⟨17,[.b],false⟩] 261632 none (zR [ai 9 4,El 10 9 0,ai 11 10,[o2 12 (.p0) 2 true,o2 13 (.same 12) 2 true],Bq 14 13 2,rZ 15 0 2 14 2,zDD 16 15 2,Bl 11 16 17])) (zC 17 .skip (.exit 0))) (zQ (.block 1 (zS [Yb 20 64 0 0,ai 5 21] (zS [Yb 22 64 0 0,ai 6 23] (zR [dh 3 24 3,dC 25 5 6,zEB 27 25 26,X_ 28 27 24 24 3])))) (zR [ai 18 4,F8 19 18,ai 4 19])))))) (zS [Cx 3 30 3 2] .ret)))))
def GN:aO:=⟨[.mp [.d,.d,.d]],(.one false oV)⟩
def GQ:aN:=aG [(65,qp),(64,qo)]
def yn (n:Nat):(ByteArray × Int × Bool)->Option ((List bG) × ByteArray × Int × Bool):=aI n GQ GM [[.s,.i .i64,.b]] [.sl [.i .i64,.i .i64]] [.s,.i .i64,.b] [2] (.mp 0)
def lu:=yn BIG
def yu:TSp:=⟨GN,[[.s,.i .i64,.b]],[.sl [.i .i64,.i .i64]],[.s,.i .i64,.b],Ou.j (.mp 0),lu⟩
theorem aan:zK GQ 101 GN GM 31 (.mp 0) [2]:=by show _=_;kernel_rfl
theorem E8:yu.Ok PG 101:=aV (ae tV (ae tT (ax PG))) aan (by kernel_rfl)
theorem aao (n) (a0):yn n a0 = (eX a0).bind fun r0=> (aU n (X:=(ByteArray × Int × Bool) × (List bG) × Int) (B:=(ByteArray × Int × Bool) × (List bG)) (fun self2 x1=> (bif decide (0<x1.2.2) then some !x1.1.2.2 else some false).bind fun x3=> bif x3 then (fH x1.1).bind fun r4=> (fH r4.2).bind fun r5=> bif decide (x1.2.1.length+([(r4.1,r5.1)]).length<=4294967296) then self2 (r5.2,x1.2.1++([(r4.1,r5.1)]),IntKind.wrap .i64 (x1.2.2-1)) else none else some (x1.1,x1.2.1)) (r0.2,[],r0.1)).bind fun x6=> some (x6.2,x6.1):=by kernel_rfl
def JH:TC:=
 (zS [bH 2] (zQ (.join [⟨2,[.b],false⟩] 1048572 none (zR [dZ 3,Tw 4 3,Jf 5 4,Bn 6 0 2 5,jr 7 6,ai 8 7,[o2 9 (.p0) 5 true,o2 10 (.same 9) 5 true],Bq 11 10 5,rZ 12 0 1 11 5,[o2 13 (.p0) 5 true,o2 14 (.same 13) 5 true],Bq 15 14 5,rZ 16 0 0 15 5,zIt 17 16 5,zEg 18 12 17 5,ql 8 18 19 2])) .ret))
def JI:aO:=⟨[.mp [.d,.d,.d]],(.one false [.d])⟩
def JJ:aN:=aG []
def oZ (n:Nat):(ByteArray × Int × Bool)->Option ((Bool) × ByteArray × Int × Bool):=aI n JJ JH [[.s,.i .i64,.b]] [.b] [.s,.i .i64,.b] [2] (.mp 0)
def jI:=oZ BIG
def tX:TSp:=⟨JI,[[.s,.i .i64,.b]],[.b],[.s,.i .i64,.b],Ou.j (.mp 0),jI⟩
theorem acG:zK JJ 69 JI JH 20 (.mp 0) [2]:=by show _=_;kernel_rfl
theorem yw:tX.Ok PG 69:=aV (ax PG) acG (by kernel_rfl)
theorem Ac (n) (a0):oZ n a0 = (bif !a0.2.2 then some (decide (a0.2.1=(a0.1.size:Int))) else some false).bind fun x0=> some (x0,a0):=by kernel_rfl
def ae1:TC:=
 (zS [nO 3 1] (zQ (.join [⟨4,[.b],false⟩] 268435440 none (zR [ai 5 0,ug 6 54 5 12,ai 7 6,mZ 8 2,rZ 9 3 0 8 2,ik 10 0 2,Jg 11 10 2,zDs 54 9 11 12 12 2,lT 7 12 13,F9 15 9 3 1 9,ik 17 0 9,Jg 18 17 9,zDs 54 16 18 19 19 9,lT 14 19 20,X9 22 16 3 0 3 1,zDt 26 23 25 16,ql 21 26 27 4])) .ret))
def ae2:aO:=⟨[.rd false [.d],.rd true [.d,.d]],(.one false [.d])⟩
def ae3:aN:=aG [(54,tQ)]
def QA (n:Nat):Int × bG->Option ((Bool) × Unit):=aI n ae3 ae1 [[.i .i64],[.i .i64,.i .i64]] [.b] [] [4] .no
def QB:=QA BIG
def ae4:TSp:=⟨ae2,[[.i .i64],[.i .i64,.i .i64]],[.b],[],Ou.j .no,QB⟩
theorem aud:zK ae3 132 ae2 ae1 28 .no [4]:=by show _=_;kernel_rfl
theorem aqE:ae4.Ok PG 132:=aV (ae qm (ax PG)) aud (by kernel_rfl)
theorem aue (n) (a0) (a1):QA n (a0,a1) = ((kE (a0,(1:Int),(12:Int))).bind fun r0=> bif r0.1 then (kE (a1.1,(0:Int),IntKind.wrap .i64 (a0-1))).bind fun r1=> bif r1.1 then (kE (a1.2,(0:Int),IntKind.wrap .i64 (a0-1))).bind fun r2=> bif r2.1 then some (decide (a1.1<a1.2)) else some false else some false else some false).bind fun x3=> some (x3,()):=by kernel_rfl
def ai5:TC:=
 (zS [ek 2 0,nO 3 1] (zQ (.join [⟨4,[.b],false⟩] 16777200 none (zR [lm 5 2 0 5,lm 7 3 0 7,mf 9 6 8,ai 10 9,pE 11 5 2 0 5,pE 13 5 3 0 5,zDw 15 12 14 5,iL 16 15 5,X9 17 11 2 1 3 1,zDt 21 18 20 11,En 16 21 22 22 5 10,ai 4 23])) .ret))
def ai6:aO:=⟨[.rd true [.d,.d],.rd true [.d,.d]],(.one false [.d])⟩
def ai7:aN:=aG []
def Wu (n:Nat):bG × bG->Option ((Bool) × Unit):=aI n ai7 ai5 [[.i .i64,.i .i64],[.i .i64,.i .i64]] [.b] [] [4] .no
def Wv:=Wu BIG
def ai8:TSp:=⟨ai6,[[.i .i64,.i .i64],[.i .i64,.i .i64]],[.b],[],Ou.j .no,Wv⟩
theorem awQ:zK ai7 133 ai6 ai5 24 .no [4]:=by show _=_;kernel_rfl
theorem auf:ai8.Ok PG 133:=aV (ax PG) awQ (by kernel_rfl)
theorem awR (n) (a0) (a1):Wu n (a0,a1) = (bif decide (a0.1<a1.1) then some true else bif decide (a0.1=a1.1) then some (decide (a0.2<a1.2)) else some false).bind fun x0=> some (x0,()):=by kernel_rfl
def aap:TC:=
 (zS [bH 4] (zQ (.join [] 8589934576 (some [⟨4,[.b],false⟩]) (zS [Gd 7 1 7,bN 9] (.block 0 (.loop [⟨9,[.i .i64],false⟩] 8589934192 (zS [mf 10 9 8] (zQ (zC 10 .skip (.exit 0)) (zQ (.join [] 4294965360 (some [⟨4,[.b],false⟩]) (.block 1 (zS [ai 11 9,zLv 12 7 9 7 2 2,zGb 6 1000000007,ai 5 11,jW 6 6 13] (zQ (.join [⟨31,[.b],false⟩] 4294950912 none (zR [ai 14 0,Jo 15 6 2 132 14,Gb 17 16 5 4,Jh 20 19 0 4,iL 21 20 4,ik 22 1 7,ik 23 5 7,Jg 24 23 7,Cv 25 22 24 7,zDB 26 22 2 25 2 7,zEu 27 6 2 7,xE 133 26 27 28 28 7,zDD 29 28 7,En 21 29 30 30 4 18])) (zC 31 (zS [bH 4] .ret) .skip))))) (zR [xC 32 9,ai 9 32])))))))) (zS [ai 33 1,mJ 34 33,zAA 35 34 66,ai 4 35] .ret)))
def aaq:aO:=⟨[.rd false [.d],.rd false oV],(.one false [.d])⟩
def aar:aN:=aG [(132,ae4),(133,ai8)]
def LW (n:Nat):Int × (List bG)->Option ((Bool) × Unit):=aI n aar aap [[.i .i64],[.sl [.i .i64,.i .i64]]] [.b] [] [4] .no
def Dx:=LW BIG
def LX:TSp:=⟨aaq,[[.i .i64],[.sl [.i .i64,.i .i64]]],[.b],[],Ou.j .no,Dx⟩
theorem aqF:zK aar 123 aaq aap 36 .no [4]:=by show _=_;kernel_rfl
theorem UH:LX.Ok PG 123:=aV (ae aqE (ae auf (ax PG))) aqF (by kernel_rfl)
theorem aqG (n) (a0) (a1):LW n (a0,a1) =
 (aU n (X:=Int) (B:=(Unit) ⊕ (Bool)) (fun self1 x0=>
  bif decide (x0<(a1.length:Int)) then
   (bnd a1.length x0 fun n2=>
    a1[n2]?.bind fun y3=>
    ((QB (a0,y3)).bind fun r4=>
     bif !r4.1 then
      some true
     else bif decide (0<x0) then
      bnd a1.length (IntKind.wrap .i64 (x0-1)) fun n5=>
      a1[n5]?.bind fun y6=>
      (Wv (y6,y3)).bind fun r7=>
      some !r7.1
     else some false).bind fun x8=>
    bif x8 then
     some (Sum.inr false)
    else some (Sum.inl ())).bind fun y=>match y with
   | .inl x9=>
    self1 (IntKind.wrap .i64 (x0+1))
   | .inr x9=>
    some (Sum.inr x9)
  else some (Sum.inl ())) (0:Int)).bind fun y=>match y with
 | .inl x10=>
  some (decide ((a1.length:Int)<=66),())
 | .inr x10=>
  some (x10,()):=by kernel_rfl
def UI:TC:=
 (zS [bH 4] (zQ (zS [Gd 7 1 7,ai 9 0,X0 10 8 9] (zC 10 (zS [bH 4] .ret) .skip)) (zQ (.join [] 2147481712 (some [⟨4,[.b],false⟩]) (zS [ai 11 1,mJ 12 11,bN 13] (.block 0 (.loop [⟨13,[.i .i64],false⟩] 2147475568 (zS [mf 14 13 12] (zQ (zC 14 .skip (.exit 0)) (zQ (.join [] 1073709168 (some [⟨4,[.b],false⟩]) (.block 1 (zS [ai 15 13,ui 16 11 13 1,ai 5 15,ai 6 17] (zQ (.join [⟨29,[.b],false⟩] 1073479680 none (zR [dC 18 6 5,zEa 20 54 18 19,Gb 21 20 1 4,zLt 24 6 4 23 4,zEc 26 23 1 25 4,iL 27 6 4,MU 28 26 27 4,xD 22 28 29])) (zC 29 (zS [bH 4] .ret) .skip))))) (zR [xC 30 13,ai 13 30])))))))) (zS [ic 4] .ret))))
def UJ:aO:=⟨[.rd false [.d],.rd false jP],(.one false [.d])⟩
def UK:aN:=aG [(54,tQ)]
def Iy (n:Nat):Int × List (Int)->Option ((Bool) × Unit):=aI n UK UI [[.i .i64],[.sl [.i .i64]]] [.b] [] [4] .no
def Iz:=Iy BIG
def UL:TSp:=⟨UJ,[[.i .i64],[.sl [.i .i64]]],[.b],[],Ou.j .no,Iz⟩
theorem alE:zK UK 124 UJ UI 31 .no [4]:=by show _=_;kernel_rfl
theorem ai9:UL.Ok PG 124:=aV (ae qm (ax PG)) alE (by kernel_rfl)
theorem alF (n) (a0) (a1):Iy n (a0,a1) =
 bif !decide ((a1.length:Int)=a0) then
  some (false,())
 else (aU n (X:=Int) (B:=(Unit) ⊕ (Bool)) (fun self1 x0=>
  bif decide (x0<(a1.length:Int)) then
   (bnd a1.length x0 fun n2=>
    a1[n2]?.bind fun y3=>
    ((kE (y3,(0:Int),x0)).bind fun r4=>
     bif !r4.1 then
      some true
     else bnd a1.length y3 fun n5=>
     a1[n5]?.bind fun y6=>
     some (!decide (y6=y3))).bind fun x7=>
    bif x7 then
     some (Sum.inr false)
    else some (Sum.inl ())).bind fun y=>match y with
   | .inl x8=>
    self1 (IntKind.wrap .i64 (x0+1))
   | .inr x8=>
    some (Sum.inr x8)
  else some (Sum.inl ())) (0:Int)).bind fun y=>match y with
 | .inl x9=>
  some (true,())
 | .inr x9=>
  some (x9,()):=by kernel_rfl
def UM:TC:=
 (zS [nO 3 1] (zQ (.join [⟨4,[.b],false⟩] 16777200 none (zR [ai 5 0,ug 6 54 5 12,ai 7 6,mZ 8 2,rZ 9 3 0 8 2,zEv 54 9 1 10 10 2,lT 7 10 11,ik 13 0 7,F9 14 7 3 2 7,xE 123 13 15 16 16 7,lT 12 16 17,ik 19 0 13,wF 20 13 3 3,xE 124 19 21 22 22 13,ql 18 22 23 4])) .ret))
def UN:aO:=⟨[.rd false [.d],.rd true OV],(.one false [.d])⟩
def UO:aN:=aG [(54,tQ),(123,LX),(124,UL)]
def IA (n:Nat):Int × wG->Option ((Bool) × Unit):=aI n UO UM [[.i .i64],lh] [.b] [] [4] .no
def uO:=IA BIG
def IB:TSp:=⟨UN,[[.i .i64],lh],[.b],[],Ou.j .no,uO⟩
theorem alG:zK UO 97 UN UM 24 .no [4]:=by show _=_;kernel_rfl
theorem QC:IB.Ok PG 97:=aV (ae qm (ae UH (ae ai9 (ax PG)))) alG (by kernel_rfl)
theorem alH (n) (a0) (a1):IA n (a0,a1) = ((kE (a0,(1:Int),(12:Int))).bind fun r0=> bif r0.1 then (kE (a1.1,(1:Int),(100000:Int))).bind fun r1=> bif r1.1 then (Dx (a0,a1.2.2.1)).bind fun r2=> bif r2.1 then (Iz (a0,a1.2.2.2)).bind fun r3=> some r3.1 else some false else some false else some false).bind fun x4=> some (x4,()):=by kernel_rfl
def NA:TC:=
 (zS [zHd 4 1000000005,bH 5] (zQ (zS [ai 10 0,ug 11 54 10 12,jr 12 11] (zC 12 (zS [zHa 13,Bv 4 13 4 13] .ret) .skip)) (zS [ai 14 1,zIu 15 14,ek 16 15,dZ 6] (zS [zHd 7 1000000008] (zS [yY 17 6 65 16 16,xJ 19 7 7 0 18] (zS [yY 20 6 64 16 16,ai 8 21] (zS [ai 22 8,yV 23 22 1,xJ 24 7 7 1 23] (zS [yY 25 6 101 16 16,oW 27,zEA 7 26 7 2 27 26] (zQ (.join [⟨16,[.s,.i .i64,.b],false⟩,⟨7,lh,false⟩] 1099243258496 none (zS [ai 28 0,bN 29] (.block 0 (.loop [⟨16,[.s,.i .i64,.b],false⟩,⟨7,lh,false⟩,⟨29,[.i .i64],false⟩] 1098974823040 (zS [mf 30 29 28] (zQ (zC 30 .skip (.exit 0)) (zQ (.block 1 (zS [yY 31 6 64 16 16,ai 9 32] (zR [xG 33 7 3,ai 35 9,MS 36 35,O_ 34 34 36 37 34 34 7 37 7 7 3]))) (zR [xC 39 29,ai 29 39])))))))) (zQ (.seq (.join [⟨52,[.b],false⟩] 9006099743178752 none (zR [ai 40 8,El 41 40 1,ai 42 41,zIr 43 6 2,zIv 16 44 16 44,oh 45 44 2 42,iL 48 0 7,zIw 49 7 4 7,F7 97 48 49 50 50 7,uH 51 50 7 47])) (zC 52 (zS [zHa 53,Bv 4 53 4 53] .ret) .skip)) (zS [Bt 54 7 4 4 4 7,ic 5] .ret)))))))))))
def NB:aO:=⟨[.rd false [.d],.rd false [.d]],(.tup [(true,4),(false,1)] [.d,.d,.sl (.own none) [.d,.d],.sl (.own none) [.d],.d])⟩
def NC:aN:=aG [(54,tQ),(65,qp),(64,qo),(101,yu),(69,tX),(97,IB)]
def Ci (n:Nat):Int × ByteArray->Option ((Int × Bool × List bG × List Int × Bool) × Unit):=aI n NC NA [[.i .i64],[.s]] [.i .i64,.b,.sl [.i .i64,.i .i64],.sl [.i .i64],.b] [] [4,5] .no
def Cj:=Ci BIG
def ND:TSp:=⟨NB,[[.i .i64],[.s]],[.i .i64,.b,.sl [.i .i64,.i .i64],.sl [.i .i64],.b],[],Ou.j .no,Cj⟩
theorem af_:zK NC 66 NB NA 55 .no [4,5]:=by show _=_;kernel_rfl
theorem acH:ND.Ok PG 66:=aV (ae qm (ae tV (ae tT (ae E8 (ae yw (ae QC (ax PG))))))) af_ (by kernel_rfl)
theorem aga (n) (a0) (a1):Ci n (a0,a1) = (kE (a0,(1:Int),(12:Int))).bind fun r0=> bif !r0.1 then some (((0:Int),false,[],[],false),()) else (eX (a1,(0:Int),false)).bind fun r1=> (fH r1.2).bind fun r2=> (lu r2.2).bind fun r3=> (aU n (X:=(ByteArray × Int × Bool) × wG × Int) (B:=(ByteArray × Int × Bool) × wG) (fun self5 x4=> bif decide (x4.2.2<a0) then (fH x4.1).bind fun r6=> bif decide (x4.2.1.2.2.2.length+[r6.1].length<=4294967296) then self5 (r6.2,(x4.2.1.1,x4.2.1.2.1,x4.2.1.2.2.1,x4.2.1.2.2.2++[r6.1]),IntKind.wrap .i64 (x4.2.2+1)) else none else some (x4.1,x4.2.1)) (r3.2,(r1.1,decide (r2.1=1),r3.1,[]),(0:Int))).bind fun x7=> (bif decide (1<r2.1) then some true else (jI x7.1).bind fun r8=> bif !r8.1 then some true else (uO (a0,x7.2)).bind fun r9=> some !r9.1).bind fun x10=> bif x10 then some (((0:Int),false,[],[],false),()) else some ((x7.2.1,x7.2.2.1,x7.2.2.2.1,x7.2.2.2.2,true),()):=by kernel_rfl
def aas:TC:=
 (zS [nO 3 1] (zQ (.seq (.join [⟨30,[.b],false⟩] 2147483616 none (zR [ai 5 0,ug 6 54 5 12,jr 7 6,ai 8 7,Bo 9 3,OZ 10 3 0 9 3,XX 54 10 100000 11 11 3,oh 12 11 3 8,iL 15 0 9,pE 16 9 3 2 9,F7 123 15 17 18 18 9,oh 19 18 9 14,qi 22 16 3 3,zIc 24 23 0 16,iL 25 24 16,wF 26 20 3 1,[o2 28 (.data (.bin .neq) [.t 27,kD 3]) 20 true],En 25 28 29 29 16 21])) (zC 30 (zS [bH 4] .ret) .skip)) (zQ (.join [] 576460750155939856 (some [⟨4,[.b],false⟩]) (zS [bV 31 3 1] (.block 0 (zQ (.join [⟨33,[.b],false⟩] 60129542144 none (zS [TD 34 32 1] (zC 33 .skip (zR [TD 35 32 2])))) (zC 33 (zS [TF 36 3 2,xI 39 38 1 4] .ret) (zS [xI 41 32 3 40] (zC 40 (zQ (.join [⟨4,[.b],false⟩] 9002801208229904 none (zR [TF 42 3 2,yV 45 44 0,Gc 46 45 4 3 3 4,ik 49 0 4,Jg 50 49 4,zDs 54 48 50 51 51 4,ql 46 51 52 4])) .ret) (zS [xI 54 32 4 53] (zC 53 (zS [TF 55 3 2,El 58 57 0,ai 4 58] .ret) .skip))))))))) (zS [bH 4] .ret))))
def aat:aO:=⟨[.rd false [.d],.rd true Je],(.one false [.d])⟩
def aau:aN:=aG [(54,tQ),(123,LX)]
def LY (n:Nat):Int × zO->Option ((Bool) × Unit):=aI n aau aas [[.i .i64],jf] [.b] [] [4] .no
def yx:=LY BIG
def LZ:TSp:=⟨aat,[[.i .i64],jf],[.b],[],Ou.j .no,yx⟩
theorem aqH:zK aau 99 aat aas 59 .no [4]:=by show _=_;kernel_rfl
theorem UQ:LZ.Ok PG 99:=aV (ae qm (ae UH (ax PG))) aqH (by kernel_rfl)
theorem aqI (n) (a0) (a1):LY n (a0,a1) = ((kE (a0,(1:Int),(12:Int))).bind fun r0=> bif !r0.1 then some true else (kE (a1.1,(1:Int),(100000:Int))).bind fun r1=> bif !r1.1 then some true else (Dx (a0,a1.2.2.1)).bind fun r2=> bif !r2.1 then some true else bif !decide (a1.2.2.2=0) then some (!decide (a1.2.1=3)) else some false).bind fun x3=> bif x3 then some (false,()) else ((bif decide (a1.2.1=1) then some true else some (decide (a1.2.1=2))).bind fun x4=> bif x4 then some (Sum.inr (decide ((a1.2.2.1.length:Int)=1))) else bif decide (a1.2.1=3) then (bif decide ((a1.2.2.1.length:Int)=0) then (kE (a1.2.2.2,(0:Int),IntKind.wrap .i64 (a0-1))).bind fun r5=> some r5.1 else some false).bind fun x6=> some (Sum.inr x6) else bif decide (a1.2.1=4) then some (Sum.inr (decide (0<(a1.2.2.1.length:Int)))) else some (Sum.inl ())).bind fun y=>match y with | .inl x7=> some (false,()) | .inr x7=> some (x7,()):=by kernel_rfl
def QD:TC:=
 (zS [zDk 4 1000000005,bH 5] (zS [ai 8 1,zIu 9 8,ek 10 9,dZ 6] (zS [zDk 7 1000000008] (zS [yY 11 6 65 10 10,xJ 13 7 7 0 12] (zS [yY 14 6 64 10 10,xJ 16 7 7 1 15] (zS [yY 17 6 65 10 10,xJ 19 7 7 3 18] (zS [yY 20 6 101 10 10,oW 22,zEA 7 21 7 2 22 21] (zQ (.seq (.join [⟨31,[.b],false⟩] 4286579712 none (zR [yY 23 6 69 10 10,Gb 25 24 0 3,zIw 28 7 4 3,F7 99 27 28 29 29 3,uH 30 29 3 26])) (zC 31 (zS [[o1 32 (.build jf [])],Bv 4 32 4 32] .ret) .skip)) (zS [Bt 33 7 4 4 4 7,ic 5] .ret)))))))))
def QE:aO:=⟨[.rd false [.d],.rd false [.d]],(.tup [(true,4),(false,1)] [.d,.d,.sl (.own none) [.d,.d],.d,.d])⟩
def QG:aN:=aG [(65,qp),(64,qo),(101,yu),(69,tX),(99,LZ)]
def E9 (n:Nat):Int × ByteArray->Option ((Int × Int × List bG × Int × Bool) × Unit):=aI n QG QD [[.i .i64],[.s]] [.i .i64,.i .i64,.sl [.i .i64,.i .i64],.i .i64,.b] [] [4,5] .no
def E_:=E9 BIG
def QH:TSp:=⟨QE,[[.i .i64],[.s]],[.i .i64,.i .i64,.sl [.i .i64,.i .i64],.i .i64,.b],[],Ou.j .no,E_⟩
theorem ai_:zK QG 68 QE QD 34 .no [4,5]:=by show _=_;kernel_rfl
theorem agb:QH.Ok PG 68:=aV (ae tV (ae tT (ae E8 (ae yw (ae UQ (ax PG)))))) ai_ (by kernel_rfl)
theorem aja (n) (a0) (a1):E9 n (a0,a1) = (eX (a1,(0:Int),false)).bind fun r0=> (fH r0.2).bind fun r1=> (eX r1.2).bind fun r2=> (lu r2.2).bind fun r3=> ((jI r3.2).bind fun r4=> bif !r4.1 then some true else (yx (a0,(r0.1,r1.1,r3.1,r2.1))).bind fun r5=> some !r5.1).bind fun x6=> bif x6 then some (((0:Int),(0:Int),[],(0:Int),false),()) else some ((r0.1,r1.1,r3.1,r2.1,true),()):=by kernel_rfl
def UR:TC:=
 (zS [nO 1 0] (zQ (.join [⟨2,[.b],false⟩] 8388604 none (zR [lm 3 1 0 3,yV 5 4 0,ai 6 5,mZ 7 3,rZ 8 1 1 7 3,zDD 9 8 3,lT 6 9 10,F9 12 8 1 2 8,X4 14 13 8,O0 15 14 8,lT 11 15 16,wF 18 14 1 3,X4 20 19 14,O0 21 20 14,ql 17 21 22 2])) .ret))
def UT:aO:=⟨[.rd true OV],(.one false [.d])⟩
def UU:aN:=aG []
def IC (n:Nat):wG->Option ((Bool) × Unit):=aI n UU UR [lh] [.b] [] [2] .no
def AL:=IC BIG
def UV:TSp:=⟨UT,[lh],[.b],[],Ou.j .no,AL⟩
theorem alI:zK UU 55 UT UR 23 .no [2]:=by show _=_;kernel_rfl
theorem ajb:UV.Ok PG 55:=aV (ax PG) alI (by kernel_rfl)
theorem alJ (n) (a0):IC n a0 = (bif decide (a0.1=0) then bif !a0.2.1 then bif decide ((a0.2.2.1.length:Int)=0) then some (decide ((a0.2.2.2.length:Int)=0)) else some false else some false else some false).bind fun x0=> some (x0,()):=by kernel_rfl
def aav:TC:=
 (zS [nO 1 0] (zQ (.join [⟨2,[.b],false⟩] 4194300 none (zR [lm 3 1 0 3,yV 5 4 0,ai 6 5,mZ 7 3,rZ 8 1 1 7 3,O0 9 8 3,lT 6 9 10,F9 12 8 1 2 8,X4 14 13 8,O0 15 14 8,lT 11 15 16,wF 18 14 1 3,O0 20 19 14,ql 17 20 21 2])) .ret))
def aaw:aO:=⟨[.rd true Je],(.one false [.d])⟩
def aax:aN:=aG []
def L6 (n:Nat):zO->Option ((Bool) × Unit):=aI n aax aav [jf] [.b] [] [2] .no
def Dy:=L6 BIG
def aay:TSp:=⟨aaw,[jf],[.b],[],Ou.j .no,Dy⟩
theorem aqJ:zK aax 56 aaw aav 22 .no [2]:=by show _=_;kernel_rfl
theorem alK:aay.Ok PG 56:=aV (ax PG) aqJ (by kernel_rfl)
theorem aqK (n) (a0):L6 n a0 = (bif decide (a0.1=0) then bif decide (a0.2.1=0) then bif decide ((a0.2.2.1.length:Int)=0) then some (decide (a0.2.2.2=0)) else some false else some false else some false).bind fun x0=> some (x0,()):=by kernel_rfl
def aaz:TC:=
 (zS [ek 1 0,[o1 2 (.lit [.s] [.string ⟨#[]⟩])],bH 3] (zS [[o1 4 (.lit [.s] [.string ⟨#[]⟩])]] (zQ (.join [⟨4,[.s],false⟩] 34359738332 (some [⟨2,[.s],false⟩,⟨3,[.b],false⟩]) (zS [lm 9 1 0 9,Bu 11 1 1 1 2,bV 15 1 3,[o1 17 (.sli [.i .i64] [.t 10,.t 12,.t 14,.t 16])],mJ 18 17,bN 19] (.block 0 (.loop [⟨4,[.s],false⟩,⟨19,[.i .i64],false⟩] 34359214556 (zS [mf 20 19 18] (zQ (zC 20 .skip (.exit 0)) (zQ (.block 1 (zS [ui 21 17 19 1,ai 6 22] (zQ (zS [ai 23 6,zGB 24 54 23 0 100000,jr 25 24] (zC 25 (zS [[o1 2 (.lit [.s] [.string ⟨#[]⟩])],bH 3] .ret) .skip)) (zS [ai 27 6,O8 28 58 27 26 0 1 7] (zR [dC 31 4 7,wE 33 31 32,ai 4 33]))))) (zR [xC 34 19,ai 19 34])))))))) (zS [yZ 35 4 2,ic 3] .ret))))
def aaA:aO:=⟨[.rd true [.d,.d,.d,.d]],(.tup [(false,1),(false,1)] [.d,.d])⟩
def aaB:aN:=aG [(54,tQ),(58,nQ)]
def L8 (n:Nat):BZ->Option ((ByteArray × Bool) × Unit):=aI n aaB aaz [jq] [.s,.b] [] [2,3] .no
def L9:=L8 BIG
def aaC:TSp:=⟨aaA,[jq],[.s,.b],[],Ou.j .no,L9⟩
theorem aqL:zK aaB 57 aaA aaz 36 .no [2,3]:=by show _=_;kernel_rfl
theorem alL:aaC.Ok PG 57:=aV (ae qm (ae og (ax PG))) aqL (by kernel_rfl)
theorem aqM (n) (a0):L8 n a0 = (aU n (X:=ByteArray × Int) (B:=(ByteArray) ⊕ (ByteArray × Bool)) (fun self1 x0=> bif decide (x0.2<(([a0.1,a0.2.1,a0.2.2.1,a0.2.2.2]).length:Int)) then bnd ([a0.1,a0.2.1,a0.2.2.1,a0.2.2.2]).length x0.2 fun n2=> Option.bind ([a0.1,a0.2.1,a0.2.2.1,a0.2.2.2])[n2]? fun y3=> (kE (y3,(0:Int),(100000:Int))).bind fun r4=> bif !r4.1 then some (Sum.inr ((ByteArray.mk #[]),false)) else (jY y3).bind fun r5=> bif decide (x0.1.size+r5.1.1.size<=4611686018427387904) then self1 (x0.1++r5.1.1,IntKind.wrap .i64 (x0.2+1)) else none else some (Sum.inl x0.1)) ((ByteArray.mk #[]),(0:Int))).bind fun y=>match y with | .inl x6=> some ((x6,true),()) | .inr x6=> some (x6,()):=by kernel_rfl
def QI:TC:=
 (zS [[o1 2 (.lit [.s] [.string ⟨#[]⟩])]] (zS [Gd 8 0 8,X7 10 58 9 7,mY 11 7 0,mY 12 7 1,uI 3 11] (zQ (.join [⟨3,[.s],false⟩] 1073733704 none (zS [ai 13 0,mJ 14 13,bN 15] (.block 0 (.loop [⟨3,[.s],false⟩,⟨15,[.i .i64],false⟩] 1073709128 (zS [mf 16 15 14] (zQ (zC 16 .skip (.exit 0)) (zQ (.block 1 (zS [uJ 17 13 15 2 2,zGb 6 1000000007,jW 6 6 18] (zR [Ga 19 3 6 0,yX 22 21,bV 23 6 1,yX 25 24,[o1 26 (.sli [.i .u8] [.t 22,.t 25])],X5 27 26,wE 28 19 27,ai 3 28]))) (zR [xC 29 15,ai 15 29])))))))) (zS [yZ 30 3 2] .ret))))
def QJ:aO:=⟨[.rd false oV],(.one false [.d])⟩
def QK:aN:=aG [(58,nQ)]
def Fa (n:Nat):(List bG)->Option ((ByteArray) × Unit):=aI n QK QI [[.sl [.i .i64,.i .i64]]] [.s] [] [2] .no
def yz:=Fa BIG
def Fb:TSp:=⟨QJ,[[.sl [.i .i64,.i .i64]]],[.s],[],Ou.j .no,yz⟩
theorem ajc:zK QK 98 QJ QI 31 .no [2]:=by show _=_;kernel_rfl
theorem NE:Fb.Ok PG 98:=aV (ae og (ax PG)) ajc (by kernel_rfl)
theorem ajd (n) (a0):Fa n a0 = (jY (a0.length:Int)).bind fun r0=> (aU n (X:=ByteArray × Int) (B:=ByteArray) (fun self2 x1=> bif decide (x1.2<(a0.length:Int)) then bnd a0.length x1.2 fun n3=> a0[n3]?.bind fun y4=> bif decide (x1.1.size+(dW ([IntKind.wrap .u8 (y4.1),IntKind.wrap .u8 (y4.2)])).size<=4611686018427387904) then self2 (x1.1++(dW ([IntKind.wrap .u8 (y4.1),IntKind.wrap .u8 (y4.2)])),IntKind.wrap .i64 (x1.2+1)) else none else some x1.1) (r0.1.1,(0:Int))).bind fun x5=> some (x5,()):=by kernel_rfl
def NF:TC:=
 (zS [ek 3 1,[o1 4 (.lit [.s] [.string ⟨#[]⟩])],bH 5] (zQ (zS [ai 12 0,Jo 13 3 4 97 12,jr 15 14] (zC 15 (zS [[o1 4 (.lit [.s] [.string ⟨#[]⟩])],bH 5] .ret) .skip)) (zS [bV 17 3 0,O8 19 58 18 16 0 1 6] (zS [[o1 8 (.lit [.s] [.string ⟨#[0]⟩])]] (zQ (.join [⟨8,[.s],false⟩] 12583168 none (zS [bV 22 3 1] (zC 23 (zR [[o1 8 (.lit [.s] [.string ⟨#[1]⟩])]]) .skip))) (zS [dC 24 6 8,wE 26 24 25,TH 27 3 2 98 26,ai 9 30] (zQ (.join [⟨9,[.s],false⟩] 35182224607744 none (zS [TF 31 3 3,bN 34] (.block 0 (.loop [⟨9,[.s],false⟩,⟨34,[.i .i64],false⟩] 35167192222208 (zS [mf 35 34 33] (zQ (zC 35 .skip (.exit 0)) (zQ (.block 1 (zS [ui 36 32 34 1,ai 11 37] (zR [ai 38 9,ai 39 11,yX 40 39,zHE 41 40,X5 42 41,wE 43 38 42,ai 9 43]))) (zR [xC 44 34,ai 34 44])))))))) (zS [yZ 45 9 4,ic 5] .ret))))))))
def NG:aO:=⟨[.rd false [.d],.rd true OV],(.tup [(false,1),(false,1)] [.d,.d])⟩
def NH:aN:=aG [(97,IB),(58,nQ),(98,Fb)]
def Ck (n:Nat):Int × wG->Option ((ByteArray × Bool) × Unit):=aI n NH NF [[.i .i64],lh] [.s,.b] [] [4,5] .no
def Cm:=Ck BIG
def NI:TSp:=⟨NG,[[.i .i64],lh],[.s,.b],[],Ou.j .no,Cm⟩
theorem agc:zK NH 59 NG NF 46 .no [4,5]:=by show _=_;kernel_rfl
theorem acI:NI.Ok PG 59:=aV (ae QC (ae og (ae NE (ax PG)))) agc (by kernel_rfl)
theorem agd (n) (a0) (a1):Ck n (a0,a1) = (uO (a0,a1)).bind fun r0=> bif !r0.1 then some (((ByteArray.mk #[]),false),()) else (jY a1.1).bind fun r1=> (bif a1.2.1 then some (ByteArray.mk #[1]) else some (ByteArray.mk #[0])).bind fun x2=> bif decide (r1.1.1.size+x2.size<=4611686018427387904) then (yz a1.2.2.1).bind fun r3=> bif decide ((r1.1.1++x2).size+r3.1.size<=4611686018427387904) then (aU n (X:=ByteArray × Int) (B:=ByteArray) (fun self5 x4=> bif decide (x4.2<(a1.2.2.2.length:Int)) then bnd a1.2.2.2.length x4.2 fun n6=> a1.2.2.2[n6]?.bind fun y7=> bif decide (x4.1.size+(dW ([IntKind.wrap .u8 (y7)])).size<=4611686018427387904) then self5 (x4.1++(dW ([IntKind.wrap .u8 (y7)])),IntKind.wrap .i64 (x4.2+1)) else none else some x4.1) ((r1.1.1++x2)++r3.1,(0:Int))).bind fun x8=> some ((x8,true),()) else none else none:=by kernel_rfl
def QL:TC:=
 (zS [[o1 2 (.lit [.s] [.string ⟨#[]⟩])],bH 3] (zQ (zS [ai 6 0,r_ 7 6,El 8 7 20000] (zC 8 (zS [[o1 2 (.lit [.s] [.string ⟨#[]⟩])],bH 3] .ret) .skip)) (zS [ai 10 0,r_ 11 10,X7 12 58 11 9,mY 13 9 0,mY 14 9 1,uI 4 13] (zS [dC 15 4 0,wE 17 15 16,ai 2 17,ic 3] .ret))))
def QM:aO:=⟨[.rd false [.d]],(.tup [(false,1),(false,1)] [.d,.d])⟩
def QN:aN:=aG [(58,nQ)]
def Fe (n:Nat):ByteArray->Option ((ByteArray × Bool) × Unit):=aI n QN QL [[.s]] [.s,.b] [] [2,3] .no
def yA:=Fe BIG
def QO:TSp:=⟨QM,[[.s]],[.s,.b],[],Ou.j .no,yA⟩
theorem aje:zK QN 60 QM QL 18 .no [2,3]:=by show _=_;kernel_rfl
theorem age:QO.Ok PG 60:=aV (ae og (ax PG)) aje (by kernel_rfl)
theorem ajf (n) (a0):Fe n a0 = bif decide (20000<(a0.size:Int)) then some (((ByteArray.mk #[]),false),()) else (jY (a0.size:Int)).bind fun r0=> bif decide (r0.1.1.size+a0.size<=4611686018427387904) then some ((r0.1.1++a0,true),()) else none:=by kernel_rfl
def QP:TC:=
 (zS [ek 3 1,[o1 4 (.lit [.s] [.string ⟨#[]⟩])],bH 5] (zQ (zS [ai 10 0,Jo 11 3 4 99 10,jr 13 12] (zC 13 (zS [[o1 4 (.lit [.s] [.string ⟨#[]⟩])],bH 5] .ret) .skip)) (zS [bV 15 3 0,O8 17 58 16 14 0 1 6] (zS [bV 21 3 3,O8 23 58 22 20 0 1 8] (zS [ai 26 6,ai 33 8,bV 27 3 1,yX 29 28,zHE 30 29,X5 31 30,wE 32 26 31,wE 34 32 33,TH 35 3 2 98 34,ai 4 38,ic 5] .ret)))))
def QQ:aO:=⟨[.rd false [.d],.rd true Je],(.tup [(false,1),(false,1)] [.d,.d])⟩
def QR:aN:=aG [(99,LZ),(58,nQ),(98,Fb)]
def Ff (n:Nat):Int × zO->Option ((ByteArray × Bool) × Unit):=aI n QR QP [[.i .i64],jf] [.s,.b] [] [4,5] .no
def Fg:=Ff BIG
def QS:TSp:=⟨QQ,[[.i .i64],jf],[.s,.b],[],Ou.j .no,Fg⟩
theorem ajg:zK QR 61 QQ QP 39 .no [4,5]:=by show _=_;kernel_rfl
theorem agf:QS.Ok PG 61:=aV (ae UQ (ae og (ae NE (ax PG)))) ajg (by kernel_rfl)
theorem ajh (n) (a0) (a1):Ff n (a0,a1) = (yx (a0,a1)).bind fun r0=> bif !r0.1 then some (((ByteArray.mk #[]),false),()) else (jY a1.1).bind fun r1=> (jY a1.2.2.2).bind fun r2=> bif decide (r1.1.1.size+(dW ([IntKind.wrap .u8 (a1.2.1)])).size<=4611686018427387904) then bif decide ((r1.1.1++(dW ([IntKind.wrap .u8 (a1.2.1)]))).size+r2.1.1.size<=4611686018427387904) then (yz a1.2.2.1).bind fun r3=> bif decide (((r1.1.1++(dW ([IntKind.wrap .u8 (a1.2.1)])))++r2.1.1).size+r3.1.size<=4611686018427387904) then some ((((r1.1.1++(dW ([IntKind.wrap .u8 (a1.2.1)])))++r2.1.1)++r3.1,true),()) else none else none else none:=by kernel_rfl
def aaD:TC:=
 (zS [ek 3 1,[o1 4 (.lit [.s] [.string ⟨#[]⟩])],bH 5] (zS [[o1 6 (.lit [.s] [.string ⟨#[]⟩])],bH 7] (zQ (.join [⟨6,[.s],false⟩,⟨7,[.b],false⟩] 664613997892457936451903530140172224 none (.block 0 (zQ (.join [⟨18,[.b],false⟩] 137438691328 none (zR [bV 19 3 0,yV 21 20 1,Gc 22 21 3 3 5 3,O0 25 24 3,lT 22 25 26,mZ 28 8,Ty 29 3 6 28 4 8,zGC 55 29 30 30 8,lT 27 30 31,mZ 33 13,Ty 34 3 10 33 4 13,zGC 56 34 35 35 13,ql 32 35 36 18])) (zC 18 (zR [M4 38 3 1 4,O8 40 57 39 37 0 1 6]) (zQ (.join [⟨43,[.b],false⟩] 9223363240761753600 none (zR [bV 44 3 0,yV 46 45 2,ai 47 46,mZ 48 3,Ty 49 3 1 48 4 3,[o2 50 (.build jq []) 3 true],zIx 51 49 50,lT 47 51 52,mZ 54 9,Ty 55 3 10 54 4 9,zGC 56 55 56 56 9,lT 53 56 57,wF 59 14 3 5,zEv 54 60 0 61 61 14,ql 58 61 62 43])) (zC 43 (zS [bV 64 3 5,O8 66 58 65 63 0 1 8] (zS [ai 70 0,M4 71 3 6 4,qj 73 59 70 72 69,Jm 74 69 0 1 10] (zS [ai 77 10,O8 78 60 77 76 0 1 12] (zR [dC 81 8 12,wE 83 81 82,ai 84 11,uI 6 83])))) (zQ (.join [⟨85,[.b],false⟩] 40564780521677113179760911974400 none (zR [bV 86 3 0,yV 88 87 3,ai 89 88,mZ 90 3,Ty 91 3 1 90 4 3,[o2 92 (.build jq []) 3 true],zIx 93 91 92,lT 89 93 94,F9 96 9 3 5 9,O0 98 97 9,lT 95 98 99,mZ 101 14,Ty 102 3 6 101 4 14,zGC 55 102 103 103 14,ql 100 103 104 85])) (zC 85 (zS [ai 106 0,M4 107 3 10 4,qj 109 61 106 108 105,Jm 110 105 0 1 14] (zS [ai 113 14,O8 114 60 113 112 0 1 16] (zR [dC 117 16 15,uI 6 117]))) .skip)))))))) (zQ (zS [ai 119 7,jr 120 119] (zC 120 (zS [[o1 4 (.lit [.s] [.string ⟨#[]⟩])],bH 5] .ret) .skip)) (zS [bV 121 3 0,yX 123 122,zHE 124 123,X5 125 124,X8 126 6 125,ai 4 127,ic 5] .ret)))))
def aaE:aO:=⟨[.rd false [.d],.rd true Ct2],(.tup [(false,1),(false,1)] [.d,.d])⟩
def aaF:aN:=aG [(55,UV),(56,aay),(57,aaC),(54,tQ),(58,nQ),(59,NI),(60,QO),(61,QS)]
def L_ (n:Nat):Int × Zt5->Option ((ByteArray × Bool) × Unit):=aI n aaF aaD [[.i .i64],xA] [.s,.b] [] [4,5] .no
def yB:=L_ BIG
def Ma:TSp:=⟨aaE,[[.i .i64],xA],[.s,.b],[],Ou.j .no,yB⟩
theorem aqN:zK aaF 24 aaE aaD 128 .no [4,5]:=by show _=_;kernel_rfl
theorem UW:Ma.Ok PG 24:=aV (ae ajb (ae alK (ae alL (ae qm (ae og (ae acI (ae age (ae agf (ax PG))))))))) aqN (by kernel_rfl)
theorem aqO (n) (a0) (a1):L_ n (a0,a1) = ((bif decide (a1.1=1) then bif decide (a1.2.2.2.2.2.1=0) then (AL (a1.2.2.2.2.2.2.1,a1.2.2.2.2.2.2.2.1,a1.2.2.2.2.2.2.2.2.1,a1.2.2.2.2.2.2.2.2.2.1)).bind fun r0=> bif r0.1 then (Dy a1.2.2.2.2.2.2.2.2.2.2).bind fun r1=> some r1.1 else some false else some false else some false).bind fun x2=> bif x2 then (L9 (a1.2.1,a1.2.2.1,a1.2.2.2.1,a1.2.2.2.2.1)).bind fun r3=> some (r3.1.1,r3.1.2) else (bif decide (a1.1=2) then bif (decide (a1.2.1=0)&&(decide (a1.2.2.1=0)&&(decide (a1.2.2.2.1=0)&&(decide (a1.2.2.2.2.1=0)&&true)))) then (Dy a1.2.2.2.2.2.2.2.2.2.2).bind fun r4=> bif r4.1 then (kE (a1.2.2.2.2.2.1,(0:Int),(100000:Int))).bind fun r5=> some r5.1 else some false else some false else some false).bind fun x6=> bif x6 then (jY a1.2.2.2.2.2.1).bind fun r7=> (Cm (a0,(a1.2.2.2.2.2.2.1,a1.2.2.2.2.2.2.2.1,a1.2.2.2.2.2.2.2.2.1,a1.2.2.2.2.2.2.2.2.2.1))).bind fun r8=> (yA r8.1.1).bind fun r9=> bif decide (r7.1.1.size+r9.1.1.size<=4611686018427387904) then some (r7.1.1++r9.1.1,r8.1.2) else none else (bif decide (a1.1=3) then bif (decide (a1.2.1=0)&&(decide (a1.2.2.1=0)&&(decide (a1.2.2.2.1=0)&&(decide (a1.2.2.2.2.1=0)&&true)))) then bif decide (a1.2.2.2.2.2.1=0) then (AL (a1.2.2.2.2.2.2.1,a1.2.2.2.2.2.2.2.1,a1.2.2.2.2.2.2.2.2.1,a1.2.2.2.2.2.2.2.2.2.1)).bind fun r10=> some r10.1 else some false else some false else some false).bind fun x11=> bif x11 then (Fg (a0,a1.2.2.2.2.2.2.2.2.2.2)).bind fun r12=> (yA r12.1.1).bind fun r13=> some (r13.1.1,r12.1.2) else some ((ByteArray.mk #[]),false):Option (ByteArray × Bool)).bind fun x14=> bif !x14.2 then some (((ByteArray.mk #[]),false),()) else bif decide ((dW ([IntKind.wrap .u8 (a1.1)])).size+x14.1.size<=4611686018427387904) then some (((dW ([IntKind.wrap .u8 (a1.1)]))++x14.1,true),()) else none:=by kernel_rfl
def aaG:TC:=
 (zS [zIy 4 1000000005,bH 5] (zS [ai 11 1,zIu 12 11,ek 13 12,dZ 6] (zS [zIy 7 1000000008] (zS [yY 14 6 64 13 13,xJ 16 7 7 0 15] (zS [ic 8] (zQ (.join [⟨13,[.s,.i .i64,.b],false⟩,⟨7,xA,false⟩,⟨8,[.b],false⟩] 1152921504606724480 none (zS [bV 17 7 0] (.block 0 (zS [TD 20 18 1] (zC 19 (zS [yY 21 6 65 13 13,M0 23,Tx 7 7 1 24 22] (zS [yY 25 6 65 13 13,M0 27,Tx 7 7 2 28 26] (zS [yY 29 6 65 13 13,M0 31,Tx 7 7 3 32 30] (zR [yY 33 6 65 13 13,M0 35,Tx 7 7 4 36 34])))) (zS [xI 38 18 2 37] (zC 37 (zS [yY 39 6 65 13 13,xJ 41 7 7 5 40] (zR [ai 43 0,yY 44 6 67 13 13,zLi 46 66 43 45 42 4,mY 48 42 4,oW 49,zEA 7 47 7 6 49 47,ai 8 48])) (zS [xI 51 18 3 50] (zC 50 (zR [ai 53 0,yY 54 6 67 13 13,zLi 56 68 53 55 52 4,mY 58 52 4,oW 59,zEA 7 57 7 10 59 57,ai 8 58]) .skip))))))))) (zQ (zS [ai 61 0,lS 62 7 14,qj 63 24 61 62 60,Jm 64 60 0 1 9] (zQ (.join [⟨81,[.b],false⟩] 4835629491482221860626432 none (zR [ai 66 8,Cw 67 66,zIr 69 6 2,zIv 13 70 13 70,oh 71 70 2 68,iL 74 10 7,oh 75 74 7 73,iL 78 9 11,iL 79 1 11,MU 80 78 79 11,xD 77 80 81])) (zC 81 (zS [[o1 82 (.build xA [])],Bv 4 82 4 82] .ret) .skip))) (zS [lS 83 7 14,zIo 83 4 83 4 83 83 7 62,ic 5] .ret))))))))
def aaH:aO:=⟨[.rd false [.d],.rd false [.d]],(.tup [(true,14),(false,1)] [.d,.d,.d,.d,.d,.d,.d,.d,.sl (.own none) [.d,.d],.sl (.own none) [.d],.d,.d,.sl (.own none) [.d,.d],.d,.d])⟩
def aaI:aN:=aG [(64,qo),(65,qp),(67,GL),(66,ND),(68,QH),(24,Ma),(69,tX)]
def Mc (n:Nat):Int × ByteArray->Option ((Int × Int × Int × Int × Int × Int × Int × Bool × List bG × List Int × Int × Int × List bG × Int × Bool) × Unit):=aI n aaI aaG [[.i .i64],[.s]] [.i .i64,.i .i64,.i .i64,.i .i64,.i .i64,.i .i64,.i .i64,.b,.sl [.i .i64,.i .i64],.sl [.i .i64],.i .i64,.i .i64,.sl [.i .i64,.i .i64],.i .i64,.b] [] [4,5] .no
def Dz:=Mc BIG
def aaJ:TSp:=⟨aaH,[[.i .i64],[.s]],[.i .i64,.i .i64,.i .i64,.i .i64,.i .i64,.i .i64,.i .i64,.b,.sl [.i .i64,.i .i64],.sl [.i .i64],.i .i64,.i .i64,.sl [.i .i64,.i .i64],.i .i64,.b],[],Ou.j .no,Dz⟩
theorem aqP:zK aaI 28 aaH aaG 84 .no [4,5]:=by show _=_;kernel_rfl
theorem alM:aaJ.Ok PG 28:=aV (ae tT (ae tV (ae Wt (ae acH (ae agb (ae UW (ae yw (ax PG)))))))) aqP (by kernel_rfl)
theorem aqQ (n) (a0) (a1):Mc n (a0,a1) = (fH (a1,(0:Int),false)).bind fun r0=> (bif decide (r0.1=1) then (eX r0.2).bind fun r1=> (eX r1.2).bind fun r2=> (eX r2.2).bind fun r3=> (eX r3.2).bind fun r4=> some (r4.2,(r0.1,r1.1,r2.1,r3.1,r4.1,(0:Int),(0:Int),false,[],[],(0:Int),(0:Int),[],(0:Int)),true) else bif decide (r0.1=2) then (eX r0.2).bind fun r5=> (ry r5.2).bind fun r6=> (Cj (a0,r6.1)).bind fun r7=> some (r6.2,(r0.1,(0:Int),(0:Int),(0:Int),(0:Int),r5.1,r7.1.1,r7.1.2.1,r7.1.2.2.1,r7.1.2.2.2.1,(0:Int),(0:Int),[],(0:Int)),r7.1.2.2.2.2) else bif decide (r0.1=3) then (ry r0.2).bind fun r8=> (E_ (a0,r8.1)).bind fun r9=> some (r8.2,(r0.1,(0:Int),(0:Int),(0:Int),(0:Int),(0:Int),(0:Int),false,[],[],r9.1.1,r9.1.2.1,r9.1.2.2.1,r9.1.2.2.2.1),r9.1.2.2.2.2) else some (r0.2,(r0.1,(0:Int),(0:Int),(0:Int),(0:Int),(0:Int),(0:Int),false,[],[],(0:Int),(0:Int),[],(0:Int)),true):Option ((ByteArray × Int × Bool) × Zt5 × Bool)).bind fun x10=> (yB (a0,x10.2.1)).bind fun r11=> (bif !x10.2.2 then some true else (jI x10.1).bind fun r12=> bif !r12.1 then some true else bif !r11.1.2 then some true else some (!(r11.1.1.toList == a1.toList))).bind fun x13=> bif x13 then some (((0:Int),(0:Int),(0:Int),(0:Int),(0:Int),(0:Int),(0:Int),false,[],[],(0:Int),(0:Int),[],(0:Int),false),()) else some ((x10.2.1.1,x10.2.1.2.1,x10.2.1.2.2.1,x10.2.1.2.2.2.1,x10.2.1.2.2.2.2.1,x10.2.1.2.2.2.2.2.1,x10.2.1.2.2.2.2.2.2.1,x10.2.1.2.2.2.2.2.2.2.1,x10.2.1.2.2.2.2.2.2.2.2.1,x10.2.1.2.2.2.2.2.2.2.2.2.1,x10.2.1.2.2.2.2.2.2.2.2.2.2.1,x10.2.1.2.2.2.2.2.2.2.2.2.2.2.1,x10.2.1.2.2.2.2.2.2.2.2.2.2.2.2.1,x10.2.1.2.2.2.2.2.2.2.2.2.2.2.2.2,true),()):=by kernel_rfl
def UX:TC:=
 (zS [zHx 4,bN 5] (zS [zHx 6] (zQ (zS [ai 13 1,r_ 14 13,El 15 14 20000] (zC 15 (zS [zHx 4,bN 5] .ret) .skip)) (zS [bN 7] (.block 0 (.loop [⟨6,Tv,false⟩,⟨7,[.i .i64],false⟩] 4398046453744 (.block 1 (zS [dC 17 1 7,qj 19 27 17 18 16,zJq 20 16 0 1,mY 22 16 2,uI 8 20,ai 10 22] (zS [dC 24 0 8,zLi 26 28 24 25 23 14,mY 28 23 14,zIy 11 1000000012,xH 11 27 11 27] (zQ (.seq (.join [⟨34,[.b],false⟩] 33822867456 none (zR [ai 29 10,Gb 30 29 12 2,uH 33 32 2 31])) (zC 34 (zS [dh 6 35 6,ai 36 7,dh 35 4 35,ai 5 36] .ret) .skip)) (zS [dh 6 37 6,lS 38 11 14,[⟨false,[38],[],.det 2 (.sli xA [.t 38]),[39,38,38,11],(some 39),none⟩],zDn 37 39 40 37 39 40,dh 40 6 40] (zR [yZ 41 9 7]))))))))))))
def UY:aO:=⟨[.rd false [.d],.rd false [.d]],(.tup [(false,1),(false,1)] [.sl (.own none) Ct2,.d])⟩
def UZ:aN:=aG [(27,aak),(28,aaJ)]
def IE (n:Nat):Int × ByteArray->Option ((List Zt5 × Int) × Unit):=aI n UZ UX [[.i .i64],[.s]] [.sl xA,.i .i64] [] [4,5] .no
def kQ:=IE BIG
def IG:TSp:=⟨UY,[[.i .i64],[.s]],[.sl xA,.i .i64],[],Ou.j .no,kQ⟩
theorem alN:zK UZ 11 UY UX 42 .no [4,5]:=by show _=_;kernel_rfl
theorem QT:IG.Ok PG 11:=aV (ae alD (ae alM (ax PG))) alN (by kernel_rfl)
theorem alO (n) (a0) (a1):IE n (a0,a1) = bif decide (20000<(a1.size:Int)) then some (([],(0:Int)),()) else aU n (X:=(List TI) × Int) (B:=(List TI × Int) × Unit) (fun self1 x0=> (LV (a1,x0.2)).bind fun r2=> (Dz (a0,r2.1.1)).bind fun r3=> (bif !r2.1.2.2 then some true else some !r3.1.2.2.2.2.2.2.2.2.2.2.2.2.2.2).bind fun x4=> bif x4 then some (x0,()) else bif decide (x0.1.length+([(r3.1.1,r3.1.2.1,r3.1.2.2.1,r3.1.2.2.2.1,r3.1.2.2.2.2.1,r3.1.2.2.2.2.2.1,r3.1.2.2.2.2.2.2.1,r3.1.2.2.2.2.2.2.2.1,r3.1.2.2.2.2.2.2.2.2.1,r3.1.2.2.2.2.2.2.2.2.2.1,r3.1.2.2.2.2.2.2.2.2.2.2.1,r3.1.2.2.2.2.2.2.2.2.2.2.2.1,r3.1.2.2.2.2.2.2.2.2.2.2.2.2.1,r3.1.2.2.2.2.2.2.2.2.2.2.2.2.2.1)]).length<=4294967296) then self1 (x0.1++([(r3.1.1,r3.1.2.1,r3.1.2.2.1,r3.1.2.2.2.1,r3.1.2.2.2.2.1,r3.1.2.2.2.2.2.1,r3.1.2.2.2.2.2.2.1,r3.1.2.2.2.2.2.2.2.1,r3.1.2.2.2.2.2.2.2.2.1,r3.1.2.2.2.2.2.2.2.2.2.1,r3.1.2.2.2.2.2.2.2.2.2.2.1,r3.1.2.2.2.2.2.2.2.2.2.2.2.1,r3.1.2.2.2.2.2.2.2.2.2.2.2.2.1,r3.1.2.2.2.2.2.2.2.2.2.2.2.2.2.1)]),r2.1.2.1) else none) ([],(0:Int)):=by kernel_rfl
def U0:TC:=
 (zS [ek 2 0,zIi 4,bH 5] (zQ (zS [M3 11 2 1 21,jr 13 12] (zC 13 (zS [zIi 4,bH 5] .ret) .skip)) (zS [eF 15 2 1,[o3 16 22 [.t 15,.c [.s] [.string ⟨#[108,111,103]⟩]]],dh 16 14 16,Jm 17 14 0 1 6] (zS [dC 20 1 6,qj 22 11 20 21 19,zKn 19 23 19 1 8,ai 9 24] (zS [zIi 10] (zQ (.join [⟨10,acm,false⟩] 4261413888 none (zS [eF 25 2 1,[o3 26 23 [.t 25,.c [.s] [.string ⟨#[108,111,103,43]⟩]]],zHp 27 26] (zC 27 (zR [dh 10 28 10,[⟨false,[],[],.det 3 (.build [.i .i64,.s,.s,.s] [(0,kO 4),(1,.c [.s] [.string ⟨#[108,111,103,43]⟩])]),[29,1000000001,1000000002],(some 29),none⟩,o1 30 (.sli [.i .i64,.s,.s,.s] [.t 29])],F_ 28 30 31 28 10]) .skip))) (zQ (zS [dC 32 9 6,r_ 34 33,Bp 35 32 34] (zC 35 (zS [Cx 10 36 10 4,ic 5] .ret) .skip)) (zS [dh 10 37 10,dC 38 6 9,[o1 40 (.data (.ssl false true) [.t 38,.t 39]),⟨false,[],[],.det 3 (.build [.i .i64,.s,.s,.s] [(0,kO 1),(1,.c [.s] [.string ⟨#[108,111,103,43]⟩]),(2,.t 40)]),[41,1000000001,1000000002],(some 41),none⟩,⟨false,[],[],.det 3 (.build [.i .i64,.s,.s,.s] [(0,kO 2),(1,.c [.s] [.string ⟨#[108,111,103,43]⟩])]),[42,1000000001,1000000002],(some 42),none⟩,⟨false,[],[],.det 4 (.build [.i .i64,.s,.s,.s] [(0,kO 3),(1,.c [.s] [.string ⟨#[108,111,103,43]⟩]),(3,.c [.s] [.string ⟨#[108,111,103]⟩])]),[43,1000000001,1000000002,1000000004],(some 43),none⟩,o1 44 (.sli [.i .i64,.s,.s,.s] [.t 41,.t 42,.t 43])],F_ 37 44 45 37 4,ic 5] .ret))))))))
def U1:aO:=⟨[.rd true qN,.rd false [.d]],(.tup [(false,1),(false,1)] Ct7)⟩
def U2:aN:=aG [(21,aeS),(22,aeZ),(11,IG),(23,Qt)]
def AO (n:Nat):(List (ByteArray × ByteArray × Int)) × Int->Option ((List VV × Bool) × Unit):=aI n U2 U0 [[.sl [.s,.s,.i .i64]],[.i .i64]] acl [] [4,5] .no
def mg:=AO BIG
def U3:TSp:=⟨U1,[[.sl [.s,.s,.i .i64]],[.i .i64]],acl,[],Ou.j .no,mg⟩
theorem alP:zK U2 8 U1 U0 46 .no [4,5]:=by show _=_;kernel_rfl
theorem aji:U3.Ok PG 8:=aV (ae aqu (ae aqv (ae QT (ae Z7 (ax PG))))) alP (by kernel_rfl)
theorem U4 (n) (a0) (a1):AO n (a0,a1) = (Qr a0).bind fun r0=> bif !r0.1 then some (([],false),()) else (Qv (a0,(ByteArray.mk #[108,111,103]))).bind fun r1=> (kQ (a1,r1.1.1)).bind fun r2=> ((GH (a0,(ByteArray.mk #[108,111,103,43]))).bind fun r3=> bif decide (0<=r3.1) then bif decide (0+([((4:Int),(ByteArray.mk #[108,111,103,43]),ByteArray.empty,ByteArray.empty)]).length<=4294967296) then some ([]++([((4:Int),(ByteArray.mk #[108,111,103,43]),ByteArray.empty,ByteArray.empty)])) else none else some []:Option ((List VV))).bind fun x4=> bif decide (r2.1.2=(r1.1.1.size:Int)) then some ((x4,true),()) else bif decide (0<=r2.1.2/\r2.1.2<=r1.1.1.size) then bif decide (x4.length+([((1:Int),(ByteArray.mk #[108,111,103,43]),r1.1.1.extract 0 (Int.toNat r2.1.2),ByteArray.empty),((2:Int),(ByteArray.mk #[108,111,103,43]),ByteArray.empty,ByteArray.empty),((3:Int),(ByteArray.mk #[108,111,103,43]),ByteArray.empty,(ByteArray.mk #[108,111,103]))]).length<=4294967296) then some ((x4++([((1:Int),(ByteArray.mk #[108,111,103,43]),r1.1.1.extract 0 (Int.toNat r2.1.2),ByteArray.empty),((2:Int),(ByteArray.mk #[108,111,103,43]),ByteArray.empty,ByteArray.empty),((3:Int),(ByteArray.mk #[108,111,103,43]),ByteArray.empty,(ByteArray.mk #[108,111,103]))]),true),()) else none else none:=by kernel_rfl
def aaK:TC:=
 (zS [ek 3 0,ek 5 2,zIi 6,bH 7] (zS [ai 13 1,eF 14 5 14,qj 15 24 13 14 12,Jm 16 12 0 1 8] (zS [ai 19 8,O8 20 25 19 18 0 1 10] (zQ (.seq (.join [⟨28,[.b],false⟩] 528482304 none (zR [ai 23 9,Gb 24 23 11 2,uH 27 26 2 25])) (zC 28 (zS [zIi 6,bH 7] .ret) .skip)) (zS [ai 29 10,[⟨false,[],[],.det 3 (.build [.i .i64,.s,.s,.s] [(0,kO 1),(1,.c [.s] [.string ⟨#[108,111,103]⟩]),(2,.t 29)]),[30,1000000001,1000000002],(some 30),none⟩,⟨false,[],[],.det 3 (.build [.i .i64,.s,.s,.s] [(0,kO 2),(1,.c [.s] [.string ⟨#[108,111,103]⟩])]),[31,1000000001,1000000002],(some 31),none⟩,o1 32 (.sli [.i .i64,.s,.s,.s] [.t 30,.t 31])],dh 32 6 32,ic 7] .ret)))))
def aaL:aO:=⟨[.rd true qN,.rd false [.d],.rd true Ct2],(.tup [(false,1),(false,1)] Ct7)⟩
def aaM:aN:=aG [(24,Ma),(25,Ws)]
def Me (n:Nat):(List (ByteArray × ByteArray × Int)) × Int × Zt5->Option ((List VV × Bool) × Unit):=aI n aaM aaK [[.sl [.s,.s,.i .i64]],[.i .i64],xA] acl [] [6,7] .no
def Mf:=Me BIG
def aaN:TSp:=⟨aaL,[[.sl [.s,.s,.i .i64]],[.i .i64],xA],acl,[],Ou.j .no,Mf⟩
theorem aqR:zK aaM 9 aaL aaK 33 .no [6,7]:=by show _=_;kernel_rfl
theorem alQ:aaN.Ok PG 9:=aV (ae UW (ae ae0 (ax PG))) aqR (by kernel_rfl)
theorem aqS (n) (a0) (a1) (a2):Me n (a0,a1,a2) = (yB (a1,a2)).bind fun r0=> (Ab r0.1.1).bind fun r1=> (bif !r0.1.2 then some true else some !r1.1.2).bind fun x2=> bif x2 then some (([],false),()) else some (([((1:Int),(ByteArray.mk #[108,111,103]),r1.1.1,ByteArray.empty),((2:Int),(ByteArray.mk #[108,111,103]),ByteArray.empty,ByteArray.empty)],true),()):=by kernel_rfl
def ae5:TC:=
 (zS [ek 2 0,[o1 4 (.lit [.s] [.string ⟨#[]⟩])],bH 5] (zS [eF 7 2 1,ai 8 1,lQ 9 26 7 8,ai 6 9] (zQ (zS [ai 10 6,zGx 11 10 0] (zC 11 (zS [[o1 4 (.lit [.s] [.string ⟨#[]⟩])],bH 5] .ret) .skip)) (zS [xK 12 2 0 6,O5 15 13 14 3 1,ai 4 17,ic 5] .ret))))
def ae6:aO:=⟨[.rd true qN,.rd false [.d]],(.tup [(false,1),(false,1)] [.d,.d])⟩
def ae7:aN:=aG [(26,Wn)]
def QU (n:Nat):(List (ByteArray × ByteArray × Int)) × ByteArray->Option ((ByteArray × Bool) × Unit):=aI n ae7 ae5 [[.sl [.s,.s,.i .i64]],[.s]] [.s,.b] [] [4,5] .no
def BG:=QU BIG
def ae8:TSp:=⟨ae6,[[.sl [.s,.s,.i .i64]],[.s]],[.s,.b],[],Ou.j .no,BG⟩
theorem aug:zK ae7 10 ae6 ae5 18 .no [4,5]:=by show _=_;kernel_rfl
theorem aqT:ae8.Ok PG 10:=aV (ae aeH (ax PG)) aug (by kernel_rfl)
theorem auh (n) (a0) (a1):QU n (a0,a1) = (LJ (a0,a1)).bind fun r0=> bif decide (r0.1<0) then some (((ByteArray.mk #[]),false),()) else bnd a0.length r0.1 fun n1=> a0[n1]?.bind fun y2=> some ((y2.2.1,true),()):=by kernel_rfl
def aaO:TC:=
 (zS [nO 1 0] (zQ (zS [eF 4 1 1,jH 5 29 4,jr 6 5] (zC 6 (zS [bH 2] .ret) .skip)) (zQ (.join [] 268435340 (some [⟨2,[.b],false⟩]) (zS [bN 3] (.block 0 (.loop [⟨3,[.i .i64],false⟩] 268435340 (zQ (zS [ai 7 3,lm 8 1 0 8,qZ 10 9 7] (zC 11 .skip (.exit 0))) (zQ (.block 1 (zS [ai 16 3,ai 22 3,bV 14 1 0,O5 17 15 16 3 2,bV 20 1 0,O5 23 21 22 3 1,r_ 26 25,mf 27 19 26] (zC 27 (zS [bH 2] .ret) .skip))) (zR [gJ 12 3 3]))))))) (zS [ic 2] .ret))))
def aaP:aO:=⟨[.rd true qN],(.one false [.d])⟩
def aaQ:aN:=aG [(29,GG)]
def Mg (n:Nat):(List (ByteArray × ByteArray × Int))->Option ((Bool) × Unit):=aI n aaQ aaO [[.sl [.s,.s,.i .i64]]] [.b] [] [2] .no
def DC:=Mg BIG
def aaR:TSp:=⟨aaP,[[.sl [.s,.s,.i .i64]]],[.b],[],Ou.j .no,DC⟩
theorem aqU:zK aaQ 12 aaP aaO 28 .no [2]:=by show _=_;kernel_rfl
theorem alR:aaR.Ok PG 12:=aV (ae LH (ax PG)) aqU (by kernel_rfl)
theorem aqV (n) (a0):Mg n a0 = (sw a0).bind fun r0=> bif !r0.1 then some (false,()) else (aU n (X:=Int) (B:=(Unit) ⊕ (Bool)) (fun self2 x1=> bif decide (x1<(a0.length:Int)) then bnd a0.length x1 fun n3=> a0[n3]?.bind fun y4=> bnd a0.length x1 fun n5=> a0[n5]?.bind fun y6=> bif decide (y4.2.2<(y6.2.1.size:Int)) then some (Sum.inr false) else self2 (IntKind.wrap .i64 (x1+1)) else some (Sum.inl ())) (0:Int)).bind fun y=>match y with | .inl x7=> some (true,()) | .inr x7=> some (x7,()):=by kernel_rfl
def NJ:TC:=
 (zS [zBb 2] (zS [ai 6 0,jH 7 17 6,dZ 3] (zS [yY 8 3 30 7 7] (zS [TB 10 4] (zQ (.join [⟨4,[.sl [.i .i64]],false⟩] 1046704 none (zS [bN 5] (.block 0 (.loop [⟨4,[.sl [.i .i64]],false⟩,⟨7,jd,false⟩,⟨5,[.i .i64],false⟩] 1046704 (zQ (zS [ai 11 5,zGx 12 11 12] (zC 12 .skip (.exit 0))) (zQ (.block 1 (zR [dh 4 15 4,Tw 16 3,zAD 7 10000 17 7 17,MS 18 17,F_ 15 18 19 15 4])) (zR [gJ 13 5 5]))))))) (zS [Cx 4 20 4 2] .ret))))))
def NK:aO:=⟨[.rd false jP],(.one false jP)⟩
def NL:aN:=aG [(17,Pd),(30,KF),(31,qF)]
def Cn (n:Nat):List (Int)->Option ((List Int) × Unit):=aI n NL NJ [[.sl [.i .u8]]] [.sl [.i .i64]] [] [2] .no
def vw:=Cn BIG
def NM:TSp:=⟨NK,[[.sl [.i .u8]]],[.sl [.i .i64]],[],Ou.j .no,vw⟩
theorem agh:zK NL 13 NK NJ 21 .no [2]:=by show _=_;kernel_rfl
theorem acJ:NM.Ok PG 13:=aV (ae Yc (ae TJ (ae si (ax PG)))) agh (by kernel_rfl)
theorem agi (n) (a0):Cn n a0 = (Bw a0).bind fun r0=> (l5 r0.1).bind fun r1=> (aU n (X:=(List Int) × (List Int × Int × Int) × Int) (B:=(List Int)) (fun self3 x2=> bif decide (x2.2.2<12) then (iC (x2.2.1,(10000:Int))).bind fun r4=> bif decide (x2.1.length+[r4.1].length<=4294967296) then self3 (x2.1++[r4.1],r4.2,IntKind.wrap .i64 (x2.2.2+1)) else none else some x2.1) ([],r1.2,(0:Int))).bind fun x5=> some (x5,()):=by kernel_rfl
def U5:TC:=
 (zS [ek 2 0,Br 4 1000000005,bH 5] (zQ (zS [M3 10 2 1 29,jr 12 11] (zC 12 (zS [MX 13,Bv 4 13 4 13] .ret) .skip)) (zS [MX 14,Br 6 1000000007,mX 6 14 6 14] (zQ (.join [⟨6,[.sl [.s,.s,.i .i64]],false⟩] 4611686018427356096 none (zS [bN 7] (.block 0 (.loop [⟨6,[.sl [.s,.s,.i .i64]],false⟩,⟨7,[.i .i64],false⟩] 4611686018427356096 (zQ (zS [O7 15 7 2 0 18] (zC 19 .skip (.exit 0))) (zQ (.join [⟨6,[.sl [.s,.s,.i .i64]],false⟩] 4611686018423194432 none (.block 1 (zS [xK 22 2 0 7,uJ 25 23 24 3 3,[o5 (.a (.c [.s,.s,.i .i64] [.string ⟨#[]⟩,.string ⟨#[]⟩,kV 0])) 8 1000000009],jW 8 8 26] (zS [bN 9] (zQ (.join [⟨9,[.i .i64],false⟩] 34225521152 none (zS [Jl 27 7 1] (zC 30 (zR [O6 31 1 7 1,ai 9 34]) .skip))) (zQ (.join [⟨9,[.i .i64],false⟩] 8761733284352 none (zS [Ga 35 9 8 1,r_ 38 37,zHg 39 35 38] (zC 39 (zR [bV 40 8 1,r_ 42 41,ai 9 42]) .skip))) (zQ (.join [⟨9,[.i .i64],false⟩] 554153860399616 none (zS [Ga 43 9 8 2,mf 46 43 45] (zC 46 (zR [bV 47 8 2,ai 9 48]) .skip))) (zR [ai 55 9,ai 57 9,xG 49 6 0,Bu 51 8 0 8 1,[o1 56 (.data (.ssl false true) [.t 54,.t 55]),o1 58 (.build [.s,.s,.i .i64] [(0,.t 52),(1,.t 56),(2,.t 57)])],zIn 59 58,O_ 50 50 59 60 50 50 6 60 6 6 0])))))))) (zR [gJ 20 7 7]))))))) (zS [Bt 62 6 1 4 4 6,ic 5] .ret)))))
def U6:aO:=⟨[.rd true qN,.rd false jP],(.tup [(true,1),(false,1)] Ct9)⟩
def U7:aN:=aG [(29,GG)]
def AP (n:Nat):(List (ByteArray × ByteArray × Int)) × List (Int)->Option ((List (ByteArray × ByteArray × Int) × Bool) × Unit):=aI n U7 U5 [[.sl [.s,.s,.i .i64]],[.sl [.i .i64]]] acn [] [4,5] .no
def uP:=AP BIG
def U8:TSp:=⟨U6,[[.sl [.s,.s,.i .i64]],[.sl [.i .i64]]],acn,[],Ou.j .no,uP⟩
theorem alS:zK U7 33 U6 U5 63 .no [4,5]:=by show _=_;kernel_rfl
theorem ajj:U8.Ok PG 33:=aV (ae LH (ax PG)) alS (by kernel_rfl)
theorem U9 (n) (a0) (a1):AP n (a0,a1) = (sw a0).bind fun r0=> bif !r0.1 then some (([],false),()) else (aU n (X:=(List (ByteArray × ByteArray × Int)) × Int) (B:=(List (ByteArray × ByteArray × Int))) (fun self2 x1=> bif decide (x1.2<(a0.length:Int)) then (bnd a0.length x1.2 fun n3=> a0[n3]?.bind fun y4=> (bif decide (x1.2<(a1.length:Int)) then bnd a1.length x1.2 fun n5=> a1[n5]?.bind fun y6=> some y6 else some (0:Int)).bind fun x7=> (bif decide ((y4.2.1.size:Int)<x7) then some (y4.2.1.size:Int) else some x7).bind fun x8=> (bif decide (x8<y4.2.2) then some y4.2.2 else some x8).bind fun x9=> bif decide (0<=x9/\x9<=y4.2.1.size) then bif decide (x1.1.length+([(y4.1,y4.2.1.extract 0 (Int.toNat x9),x9)]).length<=4294967296) then some (x1.1++([(y4.1,y4.2.1.extract 0 (Int.toNat x9),x9)])) else none else none:Option ((List (ByteArray × ByteArray × Int)))).bind fun x10=> self2 (x10,IntKind.wrap .i64 (x1.2+1)) else some x1.1) ([],(0:Int))).bind fun x11=> some ((x11,true),()):=by kernel_rfl
def aaS:TC:=
 (zS [ek 4 0,Br 8 1000000009,bH 9] (zQ (zS [dC 12 2 1,mJ 14 13,zEa 15 32 12 14,jr 16 15] (zC 16 (zS [MX 17,Bv 8 17 8 17] .ret) .skip)) (zS [dC 20 1 2,zGj 1000000011 4 1 19 19,[⟨false,[],[1000000011],.det 1 (.res 20 none (some (.t 21))),[22],(some 22),none⟩],zHh 1000000011 7 19 22 23 23,zKy 1000000011 2 23 18 23 18 1 1,Br 10 1000000011,xH 10 24 10 24] (zQ (zS [MZ 26 11 2] (zC 28 (zS [MX 29,Bv 8 29 8 29] .ret) .skip)) (zS [lS 30 10 1,ai 31 3,lQ 32 33 30 31,zJA 32 33 32 1,xH 8 33 8 33] .ret)))))
def aaT:aO:=⟨[.rd true qN,.rd false Ct8,.rd false [.d],.rd false jP],(.tup [(true,1),(false,1)] Ct9)⟩
def aaU:aN:=aG [(32,d9),(7,Qp),(33,U8)]
def Mh (n:Nat):(List (ByteArray × ByteArray × Int)) × (List VV) × Int × List (Int)->Option ((List (ByteArray × ByteArray × Int) × Bool) × Unit):=aI n aaU aaS [[.sl [.s,.s,.i .i64]],acm,[.i .i64],[.sl [.i .i64]]] acn [] [8,9] .no
def DD:=Mh BIG
def aaV:TSp:=⟨aaT,[[.sl [.s,.s,.i .i64]],acm,[.i .i64],[.sl [.i .i64]]],acn,[],Ou.j .no,DD⟩
theorem aqW:zK aaU 14 aaT aaS 35 .no [8,9]:=by show _=_;kernel_rfl
theorem alT:aaV.Ok PG 14:=aV (ae dQ (ae Z6 (ae ajj (ax PG)))) aqW (by kernel_rfl)
theorem aqX (n) (a0) (a1) (a2) (a3):Mh n (a0,a1,a2,a3) = (bD (a2,(0:Int),(a1.length:Int))).bind fun r0=> bif !r0.1 then some (([],false),()) else bif decide (0<=a2) then bif decide (0<=(Int.toNat a2)/\(Int.toNat a2)<=a1.length) then (wN (a0,List.take ((Int.toNat a2)-0) (List.drop 0 a1))).bind fun r1=> bif decide (r1.1.2<a2) then some (([],false),()) else (uP (r1.1.1,a3)).bind fun r2=> some (r2.1,()) else none else none:=by kernel_rfl
def ae9:TC:=
 (zS [bH 4] (zQ (.join [⟨4,[.b],false⟩] 262128 none (zR [ai 5 0,r_ 6 5,ai 7 1,r_ 8 7,[o1 9 (.data (.bin .leq) [.t 6,.t 8])],M6 10 9 1 5,ik 12 0 5,zIt 13 12 5,[o2 14 (.data (.ssl false true) [.t 11,.t 13]) 5 true],ik 15 0 5,zEg 16 14 15 5,ql 10 16 17 4])) .ret))
def ae_:aO:=⟨[.rd false [.d],.rd false [.d]],(.one false [.d])⟩
def afa:aN:=aG []
def QV (n:Nat):ByteArray × ByteArray->Option ((Bool) × Unit):=aI n afa ae9 [[.s],[.s]] [.b] [] [4] .no
def BH:=QV BIG
def afb:TSp:=⟨ae_,[[.s],[.s]],[.b],[],Ou.j .no,BH⟩
theorem aui:zK afa 15 ae_ ae9 18 .no [4]:=by show _=_;kernel_rfl
theorem aqY:afb.Ok PG 15:=aV (ax PG) aui (by kernel_rfl)
theorem auj (n) (a0) (a1):QV n (a0,a1) = (bif decide ((a0.size:Int)<=(a1.size:Int)) then bif decide (0<=(a0.size:Int)/\(a0.size:Int)<=a1.size) then some ((a1.extract 0 (Int.toNat (a0.size:Int))).toList == a0.toList) else none else some false).bind fun x0=> some (x0,()):=by kernel_rfl
def afc:TC:=
 (zS [bH 2] (zQ (zS [O4 34359738368 0 35 35,jH 36 4 35] (zC 36 (zS [[⟨false,[],[885443715546648412160],.det 1 (.lit [.b] [.bool true]),[2],(some 2),none⟩]] .ret) .skip)) (zS [O4 885443715538058477568 0 38 38,X7 39 5 38 37,zJq 40 37 0 1,[o5 (.ext 37 2 1) 42 37],uI 3 40,dh 42 5 42] (zS [[⟨false,[],[31875973759370105192448],.det 1 (.build [.sl [.s,.s,.i .i64]] []),[43],(some 43),none⟩],Br 6 1000000007,mX 6 43 6 43] (zQ (.join [⟨6,[.sl [.s,.s,.i .i64]],false⟩] 147573934997490369472 none (zS [bN 7] (.block 0 (.loop [⟨6,[.sl [.s,.s,.i .i64]],false⟩,⟨7,[.i .i64],false⟩] 147573934997490369472 (zQ (zS [zJb 44 7,ku 46 5,qZ 47 46 45] (zC 48 .skip (.exit 0))) (zQ (.block 1 (zS [O4 4684587551006688051986432 3 53 53,M5 54 5 7,lS 52 6 1,zLv 56 54 55 5 14 14,zGg 58 6 52 53 57,dh 58 51 58,zKn 51 59 51 1 8,ai 9 60] (zR [O3 12360057579739973080242454528 6 62 62,dh 8 63 8,qj 64 7 62 63 61,zJA 61 65 61 1,[o4 2 [6,65,62] (.store 6 [] 0 .nil (.t 65))]]))) (zR [O4 732860503256945122740281540608 7 49 49,xC 50 49,ai 7 50]))))))) (zQ (zS [[⟨true,[],[4684587551007787563614208],.det 1 (.copy 5),[67],(some 67),none⟩],mJ 68 67,yV 69 68 0] (zC 69 (zS [O3 8873554201597605810760390279168 6 71 71,ai 72 3,qj 73 8 71 72 70,TA 70 74 70 1 10] (zQ (.join [⟨2,[.b],false⟩] 2342293775503344025993220 none (zR [O4 395506987271207573276385968390144 11 76 76,M6 77 76 4 1,[o2 79 (.data (.bin .gtr) [.t 78,kD 0]) 1 true],ql 77 79 80 2])) .ret)) .skip)) (zS [O4 8873554201597605810614361391104 3 83 83,ku 84 5,ku 85 5,lS 82 6 1,mJ 86 85,F8 87 86,zLv 88 84 87 5 14 14,zGg 90 9 82 83 89,dh 90 81 90,TA 81 91 81 1 12] (zS [O3 53148350643962495605638160425896902656 6 94 94,ku 95 12,qj 96 7 94 95 93,zJA 93 97 93 1,Br 14 1000000015,xH 14 97 14 97] (zS [O3 3317753077479150018767902703934716772352 14 100 100,[o3 101 10 [.t 100,.c [.s] [.string ⟨#[108,111,103]⟩]]],dh 101 99 101,Jm 102 99 0 1 16] (zS [O4 147001982509845416216177831536423774191616 3 105 105,ai 106 16,qj 107 11 105 106 104,TA 104 108 104 1 18] (zQ (.seq (.join [⟨129,[.b],false⟩] 1361128169609539220146591297102990802944 none (zR [O4 6794758302677299238436664161197547646353408 13 110 110,Cw 111 110,[⟨false,[],[],.det 2 (.copy 18),[113,18],(some 113),some (2,false)⟩],Ji 114 113 2,zHv 5 115 115 2,Ji 116 115 2,MU 117 114 116 2,Jn 112 117 118,iL 120 19 9,iL 121 16 9,zIj 122 121 9,MU 123 120 122 9,Jn 119 123 124,zIw 126 14 1 15,Jj 12 126 127 127 15,uH 128 127 15 125])) (zC 129 (zS [[⟨false,[],[6402711202087130883608466233964394764820400832512],.det 1 (.lit [.b] [.bool false]),[2],(some 2),none⟩]] .ret) .skip)) (zS [O4 6402711202087130883608466233964394165784132190208 0 130 130,X7 131 13 130 20] (zS [O3 11692013098647223345629478661730264157256050278400 6 133 133,[o3 134 10 [.t 133,.c [.s] [.string ⟨#[108,111,103]⟩]]],dh 134 132 134,Jm 135 132 0 1 21] (zS [dh 12 139 12,ku 140 20,ai 144 21,ku 146 20,O3 1000000024 6 138 138,zIA 140 0 141 141,zGo 1000000024 20 1 141 1 142 142,zIB 142 3 143 143,[⟨false,[],[1000000024],.det 1 (.data .slen [.t 144]),[145],(some 145),none⟩],zIA 146 1 147 147,zGo 1000000024 20 1 147 1 148 148,zIB 148 60 149 149,[⟨false,[],[1000000024],.det 1 (.data (.bin .add) [.t 145,.t 149]),[150],(some 150),none⟩,⟨false,[],[1000000024],.det 1 (.sli [.i .i64] [.t 150]),[151],(some 151),none⟩,⟨false,[],[1000000024],.call 1 14 [.t 138,.t 139,.t 143,.t 151] .no,[152],(some 152),none⟩],zKy 1000000024 2 152 137 152 137 1 1,Br 23 1000000024,xH 23 153 23 153] (zS [O3 245197789960865590492747283770780767905213154021972377600 23 156 156,ai 157 3,qj 158 8 156 157 155,TA 155 159 155 1 25] (zS [O3 15300435480005034361849736719068686889249491395881084125184 23 162 162,ku 163 25,qj 164 7 162 163 161,zJA 161 165 161 1,Br 27 1000000028,xH 27 165 27 165] (zS [O3 979227870720322199158383150020395960911967521393983421939712 27 168 168,ai 169 3,qj 170 8 168 169 167,TA 167 171 167 1 29] (zS [O3 62670583726100620746136521601305341498365916757528920576753664 27 174 174,[o3 175 10 [.t 174,.c [.s] [.string ⟨#[108,111,103]⟩]]],dh 175 173 175,Jm 176 173 0 1 31] (zS [O4 2776788940479535196136510495565528977158366811303075671426727936 3 179 179,ai 180 31,qj 181 11 179 180 178,TA 178 182 178 1 33] (zQ (.join [⟨2,[.b],false⟩] 431359146674385716786018387170580357225759905813711259871711986712612 none (zR [O4 128349355471054071288087596239473339388653397519419229409910980608 24 184 184,M6 185 184 26 1,lT 185 186 187,ik 189 30 4,lT 188 189 190,ik 192 28 7,zIC 25 193 25 193 7,X4 194 193 7,zLu 195 192 194 7 191,zIC 29 198 29 198 13,X4 199 198 13,O0 200 199 13,lT 197 200 201,ik 203 34 18,ik 204 31 18,zIt 205 204 18,zLu 206 203 205 18 202,zGz 33 209 209 24,X4 210 209 24,zGz 5 211 211 24,X4 212 211 24,zEg 213 210 212 24,ik 214 213 24,zID 33 215 33 209 215,Ji 216 215 30,zID 5 217 5 211 217,Ji 218 217 30,zEm 219 218 30,zDw 220 216 219 30,[⟨false,[],[],.pick 214 (.c (.bool true)) (.t 220),[221],(some 221),some (24,true)⟩],lT 208 221 222,ik 224 31 39,ik 225 16 39,xE 15 224 225 226 226 39,ql 223 226 227 2])) .ret))))))))))))))))))))
def afd:aO:=⟨[.rd false jP],(.one false [.d])⟩
def afe:aN:=aG [(4,ati),(5,JC),(6,ZZ),(7,Qp),(8,U3),(9,aaN),(10,ae8),(11,IG),(12,aaR),(13,NM),(14,aaV),(15,afb)]
def QW (n:Nat):List (Int)->Option ((Bool) × Unit):=aI n afe afc [[.sl [.i .u8]]] [.b] [] [2] .no
def aff:=QW BIG
def auk:TSp:=⟨afd,[[.sl [.i .u8]]],[.b],[],Ou.j .no,aff⟩
theorem aul:zK afe 3 afd afc 228 .no [2]:=by show _=_;kernel_rfl
theorem aqZ:auk.Ok PG 3:=aV (ae aAa (ae Zw (ae alB (ae Z6 (ae aji (ae alQ (ae aqT (ae QT (ae alR (ae acJ (ae alT (ae aqY (ax PG))))))))))))) aul (by kernel_rfl)
theorem aum (n) (a0):QW n a0 = (aid a0).bind fun r0=> bif r0.1 then some (true,()) else (zZ a0).bind fun r1=> (aU n (X:=(List (ByteArray × ByteArray × Int)) × Int) (B:=(List (ByteArray × ByteArray × Int))) (fun self3 x2=> bif decide ((IntKind.wrap .i64 (x2.2+1))<(r1.1.2.2.length:Int)) then bnd r1.1.2.2.length x2.2 fun n4=> r1.1.2.2[n4]?.bind fun y5=> (LD (x2.1,r1.1.1,y5)).bind fun r6=> (wN (x2.1,r6.1.1)).bind fun r7=> self3 (r7.1.1,IntKind.wrap .i64 (x2.2+1)) else some x2.1) ([],(0:Int))).bind fun x8=> bif decide ((r1.1.2.2.length:Int)=0) then (mg (x8,r1.1.1)).bind fun r9=> (bif r9.1.2 then some (decide (0<r1.1.2.1)) else some false).bind fun x10=> some (x10,()) else bnd r1.1.2.2.length (IntKind.wrap .i64 ((r1.1.2.2.length:Int)-1)) fun n11=> r1.1.2.2[n11]?.bind fun y12=> (Mf (x8,r1.1.1,y12)).bind fun r13=> (wN (x8,r13.1.1)).bind fun r14=> (BG (r14.1.1,(ByteArray.mk #[108,111,103]))).bind fun r15=> (kQ (r1.1.1,r15.1.1)).bind fun r16=> (bif !r13.1.2 then some true else bif !decide ((r16.1.1.length:Int)=(r1.1.2.2.length:Int)) then some true else bif !decide (r16.1.2=(r15.1.1.size:Int)) then some true else (DC r14.1.1).bind fun r17=> some !r17.1).bind fun x18=> bif x18 then some (false,()) else (vw a0).bind fun r19=> (BG (x8,(ByteArray.mk #[108,111,103]))).bind fun r20=> bnd r19.1.length (0:Int) fun n21=> r19.1[n21]?.bind fun y22=> bif decide ((3:Int)=0) then none else bnd r19.1.length (1:Int) fun n23=> r19.1[n23]?.bind fun y24=> bif decide ((60:Int)=0) then none else (DD (x8,r13.1.1,Int.tmod y22 (3:Int),[IntKind.wrap .i64 ((r20.1.1.size:Int)+(Int.tmod y24 (60:Int)))])).bind fun r25=> (mg (r25.1.1,r1.1.1)).bind fun r26=> (wN (r25.1.1,r26.1.1)).bind fun r27=> (mg (r27.1.1,r1.1.1)).bind fun r28=> (BG (r27.1.1,(ByteArray.mk #[108,111,103]))).bind fun r29=> (kQ (r1.1.1,r29.1.1)).bind fun r30=> (bif r25.1.2 then bif r26.1.2 then bif r28.1.2 then bif decide (r27.1.2=(r26.1.1.length:Int)) then bif decide ((r28.1.1.length:Int)=0) then bif decide (r30.1.2=(r29.1.1.size:Int)) then bif decide ((r30.1.1.length:Int)=(r1.1.2.2.length:Int)) then (BH (r29.1.1,r15.1.1)).bind fun r31=> some r31.1 else bif decide ((r30.1.1.length:Int)=(IntKind.wrap .i64 ((r1.1.2.2.length:Int)-1))) then (BH (r29.1.1,r15.1.1)).bind fun r32=> some r32.1 else some false else some false else some false else some false else some false else some false else some false).bind fun x33=> some (x33,()):=by kernel_rfl
end
end Go.Fw
