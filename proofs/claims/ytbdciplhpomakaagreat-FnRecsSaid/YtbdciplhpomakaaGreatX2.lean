/- The given functions, as what they compute; each is shown to be what the code does. No conditions. -/
import Derived.Test.YtbdciplhpomakaaGreatX1
set_option linter.unusedVariables false
set_option linter.unusedSimpArgs false
set_option linter.unusedSectionVars false
namespace Go.Fw
noncomputable section
def NT:TC:=
 (zS [bn 4,F7 5 1000000006] (zS [qQ 11 1,AJ 13 112 2,zGg 108 0 12 14 15 0 15,bK 15 10 15,zJh 16 10 0 1,zHs 10 2 1 18 10,pq 6 16,bK 18 8 18] (zQ (zS [fV 19 8,kX 20 19,pg 21 20 0] (zC 21 (zS [af 22 6,qQ 23 6,zHE 24 1 25 25,zHv 1 1 25 26,af 4 22,fZ 5 26 5 26] .ret) .skip)) (zS [fV 27 8,bH 28,fV 29 8,kX 30 29,kK 112 30 31 31,iW 32 27 31,zDy 33 8 14 32 14,ib 34 164 33,F7 9 1000000010,fZ 9 34 9 34] (zQ (.join [⟨0,bu,false⟩,⟨9,oC,false⟩] 147573952555316675073 none (zS [AJ 35 112 20] (.block 0 (zS [C_ 38 36 0] (zC 37 (zR [bH 39,zHB 1 2 40 40,kK 125 40 41 41,jX 42 9 9 0 41]) (zS [jq 44 36 1 43] (zC 43 (zR [bH 45,zHC 0 1 100001 46 46,kK 125 46 47 47,jX 48 9 9 5 47]) (zS [jq 50 36 2 49] (zC 49 (zR [qQ 51 6,zHE 52 5 53 53,jX 54 9 9 1 53]) (zS [jq 56 36 3 55] (zC 55 (zR [Qy 57 6 162,uO 60 9 59 9 10 59]) (zS [jq 62 36 4 61] (zC 61 (zR [Qy 63 6 76,uO 66 9 65 9 6 65]) .skip))))))))))))) (zS [Gb 67 6 9 14,af 4 67,zBz 68 5 68 5 68 68 9] .ret))))))
def YX:aI:=⟨[.mp [.sl (.ro []) [.d],.d,.d],.rd false gK],(.tup [(false,1),(true,14)] [.d,.d,.d,.d,.d,.d,.d,.d,.d,.sl (.own none) [.d,.d],.sl (.own none) [.d],.d,.d,.sl (.own none) [.d,.d],.d])⟩
def NU:aJ:=aA [(112,d_),(108,U7),(41,MP),(164,K9),(125,iU),(162,Gn),(76,Dt)]
def NV (n:Nat):(List Int × Int × Int) × List (Int)->Option (Zt5 × List Int × Int × Int):=aB n NU NT [bu,[.sl [.i .u8]]] Ty2 bu [4,5] (.mp 0)
def Du:=NV BIG
def NW:TSp:=⟨YX,[bu,[.sl [.i .u8]]],Ty2,bu,Ou.j (.mp 0),Du⟩
theorem aki:aL PG NU 82 YX (NT.ht 69) (.mp 0)=some (NT.wc NU,[4,5]):=by kernel_rfl
theorem Vf:NW.Ok PG 82:=aM (ae dZ (ae adW (ae Ux (ae Xo (ae jB (ae U_ (ae Sz (ak PG)))))))) aki (by kernel_rfl)
theorem akj (n) (a0) (a1):NV n (a0,a1) = (bv (a0,(2:Int))).bind fun r0=> (Jj (r0.2,a1,r0.1)).bind fun r1=> bif decide ((r1.1.2.2.length:Int)=(0:Int)) then (xn (r1.2,r1.1.1,(2:Int),(1:Int))).bind fun r2=> some ((r1.1.1,(1:Int),r2.1.1,r2.1.2.1,r2.1.2.2.1,r2.1.2.2.2,(0:Int),(0:Int),false,[],[],(0:Int),(0:Int),[],(0:Int)),r2.2) else (bv (r1.2,(r1.1.2.2.length:Int))).bind fun r3=> bnd r1.1.2.2.length r3.1 fun n4=> r1.1.2.2[n4]?.bind fun y5=> (xY y5).bind fun r6=> ((bv (r3.2,(20:Int))).bind fun r7=> bif decide (r7.1=(0:Int)) then (bW (r7.2,[(0:Int),(1:Int),(2:Int),(3:Int),(4:Int)])).bind fun r8=> some (r8.2,(r8.1,r6.1.2)) else bif decide (r7.1=(1:Int)) then (bW (r7.2,[(-1:Int),(0:Int),(1:Int),(100001:Int)])).bind fun r9=> some (r9.2,(r6.1.1,r6.1.2.1,r6.1.2.2.1,r6.1.2.2.2.1,r6.1.2.2.2.2.1,r9.1,r6.1.2.2.2.2.2.2)) else bif decide (r7.1=(2:Int)) then (xn (r7.2,r1.1.1,(2:Int),(5:Int))).bind fun r10=> some (r10.2,(r6.1.1,r10.1.1,r10.1.2.1,r10.1.2.2.1,r10.1.2.2.2,r6.1.2.2.2.2.2)) else bif decide (r7.1=(3:Int)) then (vN (r7.2,r1.1.1)).bind fun r11=> some (r11.2,(r6.1.1,r6.1.2.1,r6.1.2.2.1,r6.1.2.2.2.1,r6.1.2.2.2.2.1,r6.1.2.2.2.2.2.1,r6.1.2.2.2.2.2.2.1,r6.1.2.2.2.2.2.2.2.1,r6.1.2.2.2.2.2.2.2.2.1,r6.1.2.2.2.2.2.2.2.2.2.1,r11.1)) else bif decide (r7.1=(4:Int)) then (tX (r7.2,r1.1.1)).bind fun r12=> some (r12.2,(r6.1.1,r6.1.2.1,r6.1.2.2.1,r6.1.2.2.2.1,r6.1.2.2.2.2.1,r6.1.2.2.2.2.2.1,r12.1.1,r12.1.2.1,r12.1.2.2.1,r12.1.2.2.2,r6.1.2.2.2.2.2.2.2.2.2.2)) else some (r7.2,r6.1):Option ((List Int × Int × Int) × YA)).bind fun x13=> some ((r1.1.1,x13.2),x13.1):=by kernel_rfl
def vO:TC:=
 (zS [bn 2,F7 3 1000000004] (zS [af 4 0,ib 5 37 4,af 6 0,zGo 82 5 6 7 5 7,gW 8 7 0,zHs 7 1 14 9 7,af 2 8,fZ 3 9 3 9] .ret))
def Gp:aI:=⟨[.rd false gK],(.tup [(false,1),(true,14)] [.d,.d,.d,.d,.d,.d,.d,.d,.d,.sl (.own none) [.d,.d],.sl (.own none) [.d],.d,.d,.sl (.own none) [.d,.d],.d])⟩
def vQ:aJ:=aA [(37,MG),(82,NW)]
def vR (n:Nat):List (Int)->Option (Zt5 × Unit):=aB n vQ vO [[.sl [.i .u8]]] Ty2 [] [2,3] .no
def vS:=vR BIG
def Gq:TSp:=⟨Gp,[[.sl [.i .u8]]],Ty2,[],Ou.j .no,vS⟩
theorem Xr:aL PG vQ 22 Gp (vO.ht 10) .no=some (vO.wc vQ,[2,3]):=by kernel_rfl
theorem Vg:Gq.Ok PG 22:=aM (ae Ur (ae Vf (ak PG))) Xr (by kernel_rfl)
theorem Xt (n) (a0):vR n a0 = (xm a0).bind fun r0=> (Du (r0.1,a0)).bind fun r1=> some (r1.1,()):=by kernel_rfl
def EZ:TC:=
 (zS [kN 1 0] (zQ (.join [⟨2,[.b],false⟩] 8388604 none (zR [iY 3 1 0 3,pg 5 4 0,af 6 5,jJ 7 3,lN 8 1 1 7 3,Qn 9 8 3,ic 6 9 10,AA 12 8 1 2 8,zGx 14 13 8,Qq 15 14 8,ic 11 15 16,C8 18 14 1 3,zGx 20 19 14,Qq 21 20 14,mM 17 21 22 2])) .ret))
def Q5:aI:=⟨[.rd true Av],(.one false [.d])⟩
def E5:aJ:=aA []
def E8 (n:Nat):gT->Option ((Bool) × Unit):=aB n E5 EZ [dx] [.b] [] [2] .no
def wM:=E8 BIG
def Q6:TSp:=⟨Q5,[dx],[.b],[],Ou.j .no,wM⟩
theorem adZ:aL PG E5 83 Q5 (EZ.ht 23) .no=some (EZ.wc E5,[2]):=by kernel_rfl
theorem ab8:Q6.Ok PG 83:=aM (ak PG) adZ (by kernel_rfl)
theorem ad1 (n) (a0):E8 n a0 = (bif decide (a0.1=(0:Int)) then bif !a0.2.1 then bif decide ((a0.2.2.1.length:Int)=(0:Int)) then some (decide ((a0.2.2.2.length:Int)=(0:Int))) else some false else some false else some false:Option (Bool)).bind fun x0=> some (x0,()):=by kernel_rfl
def Jr:TC:=
 (zS [kN 1 0] (zQ (.join [⟨2,[.b],false⟩] 4194300 none (zR [iY 3 1 0 3,pg 5 4 0,af 6 5,jJ 7 3,lN 8 1 1 7 3,Qq 9 8 3,ic 6 9 10,AA 12 8 1 2 8,zGx 14 13 8,Qq 15 14 8,ic 11 15 16,C8 18 14 1 3,Qq 20 19 14,mM 17 20 21 2])) .ret))
def Vh:aI:=⟨[.rd true Aw],(.one false [.d])⟩
def Js:aJ:=aA []
def Jt (n:Nat):kP->Option ((Bool) × Unit):=aB n Js Jr [dP] [.b] [] [2] .no
def zG:=Jt BIG
def Vi:TSp:=⟨Vh,[dP],[.b],[],Ou.j .no,zG⟩
theorem ahF:aL PG Js 84 Vh (Jr.ht 22) .no=some (Jr.wc Js,[2]):=by kernel_rfl
theorem ad2:Vi.Ok PG 84:=aM (ak PG) ahF (by kernel_rfl)
theorem ahG (n) (a0):Jt n a0 = (bif decide (a0.1=(0:Int)) then bif decide (a0.2.1=(0:Int)) then bif decide ((a0.2.2.1.length:Int)=(0:Int)) then some (decide (a0.2.2.2=(0:Int))) else some false else some false else some false:Option (Bool)).bind fun x0=> some (x0,()):=by kernel_rfl
def ahH:TC:=
 (zS [bf 6] (zQ (.join [⟨6,[.b],false⟩] 32704 none (zR [bM 7 0 1,zAE 9 7 8,Ga 10 9 0 3,fq 12 2 3,zBa,mM 10 13 14 6])) .ret))
def anq:aI:=⟨[.rd false [.d],.rd false [.d],.rd false [.d]],(.one false [.d])⟩
def ahI:aJ:=aA []
def ahJ (n:Nat):Int × Int × Int->Option ((Bool) × Unit):=aB n ahI ahH [[.i .i64],[.i .i64],[.i .i64]] [.b] [] [6] .no
def jH:=ahJ BIG
def wN:TSp:=⟨anq,[[.i .i64],[.i .i64],[.i .i64]],[.b],[],Ou.j .no,jH⟩
theorem aq0:aL PG ahI 48 anq (ahH.ht 15) .no=some (ahH.wc ahI,[6]):=by kernel_rfl
theorem tY:wN.Ok PG 48:=aM (ak PG) aq0 (by kernel_rfl)
theorem aq1 (n) (a0) (a1) (a2):ahJ n (a0,a1,a2) = (bif decide (a1<=a0) then some (decide (a0<=a2)) else some false:Option (Bool)).bind fun x0=> some (x0,()):=by kernel_rfl
def Ju:TC:=
 (zS [[o1 2 (.lit [.s] [.string ⟨#[]⟩])],bf 3] (zQ (zS [af 5 0,zGy 6 48 5 0 1000000000,h_ 7 6] (zC 7 (zS [[o1 2 (.lit [.s] [.string ⟨#[]⟩])],bf 3] .ret) .skip)) (zS [[o1 4 (.lit [.sl [.i .u8]] [.slice none 0 0])]] (zQ (.join [⟨4,[.sl [.i .u8]],false⟩,⟨0,[.i .i64],false⟩] 524049 none (.block 0 (.loop [⟨4,[.sl [.i .u8]],false⟩,⟨0,[.i .i64],false⟩] 524049 (zQ (zS [af 8 0,w_ 9 8 127] (zC 9 .skip (.exit 0))) (.block 1 (zS [bK 4 10 4,af 11 0,zIa 12 11,zAq 13 12 128,Mt 14 13,Ul 15 14,KV 10 15 16 10 4] (zR [af 17 0,zDc 18 17 128,af 0 18]))))))) (zS [bK 4 19 4,af 20 0,Mt 21 20,Ul 22 21,xf 19 22 23 19,Yy 24 23,af 2 24,fI 3] .ret)))))
def Vj:aI:=⟨[.rd false [.d]],(.tup [(false,1),(false,1)] [.d,.d])⟩
def Jv:aJ:=aA [(48,wN)]
def Jw (n:Nat):Int->Option ((ByteArray × Bool) × Unit):=aB n Jv Ju [[.i .i64]] [.s,.b] [] [2,3] .no
def iE:=Jw BIG
def lG:TSp:=⟨Vj,[[.i .i64]],[.s,.b],[],Ou.j .no,iE⟩
theorem ahK:aL PG Jv 86 Vj (Ju.ht 25) .no=some (Ju.wc Jv,[2,3]):=by kernel_rfl
theorem l7:lG.Ok PG 86:=aM (ae tY (ak PG)) ahK (by kernel_rfl)
theorem ahL (n) (a0):Jw n a0 = (jH (a0,(0:Int),(1000000000:Int))).bind fun r0=> bif !r0.1 then some (((ByteArray.mk #[]),false),()) else (aO n (X:=(List Int) × Int) (B:=(List Int) × Int) (fun self2 x1=> bif decide ((127:Int)<x1.2) then bif decide ((128:Int)=0) then none else bif decide (x1.1.length+([IntKind.wrap .u8 (IntKind.wrap .i64 ((Int.tmod x1.2 (128:Int))+(128:Int)))]).length<=4294967296) then bif decide ((128:Int)=0) then none else self2 (x1.1++([IntKind.wrap .u8 (IntKind.wrap .i64 ((Int.tmod x1.2 (128:Int))+(128:Int)))]),IntKind.wrap .i64 (Int.tdiv x1.2 (128:Int))) else none else some (x1.1,x1.2)) ([],a0):Option ((List Int) × Int)).bind fun x3=> bif decide (x3.1.length+([IntKind.wrap .u8 (x3.2)]).length<=4294967296) then some ((dw (x3.1++([IntKind.wrap .u8 (x3.2)])),true),()) else none:=by kernel_rfl
def Jy:TC:=
 (zS [dG 1 0,[o1 2 (.lit [.s] [.string ⟨#[]⟩])],bf 3] (zS [[o1 4 (.lit [.s] [.string ⟨#[]⟩])]] (zQ (.join [⟨4,[.s],false⟩] 34359738332 (some [⟨2,[.s],false⟩,⟨3,[.b],false⟩]) (zS [iY 9 1 0 9,Gc 11 1 1 1 2,bP 15 1 3,[o1 17 (.sli [.i .i64] [.t 10,.t 12,.t 14,.t 16])],kX 18 17,bn 19] (.block 0 (.loop [⟨4,[.s],false⟩,⟨19,[.i .i64],false⟩] 34359214556 (zS [kY 20 19 18] (zQ (zC 20 .skip (.exit 0)) (zQ (.block 1 (zS [mJ 21 17 19 1,af 6 22] (zQ (zS [af 23 6,zGy 24 48 23 0 100000,h_ 25 24] (zC 25 (zS [[o1 2 (.lit [.s] [.string ⟨#[]⟩])],bf 3] .ret) .skip)) (zS [af 27 6,KY 28 86 27 26,Qw 29 26 0 1 7] (zR [bM 31 4 7,rZ 33 31 32 4]))))) (zR [yT 34 19,af 19 34])))))))) (zS [AL 35 4 2,fI 3] .ret))))
def Vk:aI:=⟨[.rd true [.d,.d,.d,.d]],(.tup [(false,1),(false,1)] [.d,.d])⟩
def Jz:aJ:=aA [(48,wN),(86,lG)]
def JA (n:Nat):r_->Option ((ByteArray × Bool) × Unit):=aB n Jz Jy [gy] [.s,.b] [] [2,3] .no
def JB:=JA BIG
def Vl:TSp:=⟨Vk,[gy],[.s,.b],[],Ou.j .no,JB⟩
theorem ahM:aL PG Jz 85 Vk (Jy.ht 36) .no=some (Jy.wc Jz,[2,3]):=by kernel_rfl
theorem ad3:Vl.Ok PG 85:=aM (ae tY (ae l7 (ak PG))) ahM (by kernel_rfl)
theorem ahN (n) (a0):JA n a0 = (aO n (X:=ByteArray × Int) (B:=(ByteArray) ⊕ (ByteArray × Bool)) (fun self1 x0=> bif decide (x0.2<(([a0.1,a0.2.1,a0.2.2.1,a0.2.2.2]).length:Int)) then bnd ([a0.1,a0.2.1,a0.2.2.1,a0.2.2.2]).length x0.2 fun n2=> Option.bind ([a0.1,a0.2.1,a0.2.2.1,a0.2.2.2])[n2]? fun y3=> (jH (y3,(0:Int),(100000:Int))).bind fun r4=> bif !r4.1 then some (Sum.inr ((ByteArray.mk #[]),false)) else (iE y3).bind fun r5=> bif decide (x0.1.size+r5.1.1.size<=4611686018427387904) then self1 (x0.1++r5.1.1,IntKind.wrap .i64 (x0.2+(1:Int))) else none else some (Sum.inl x0.1)) ((ByteArray.mk #[]),(0:Int)):Option ((ByteArray) ⊕ (ByteArray × Bool))).bind fun y=>match y with | .inl x6=> some ((x6,true),()) | .inr x6=> some (x6,()):=by kernel_rfl
def NY:TC:=
 (zS [kN 3 1] (zQ (.join [⟨4,[.b],false⟩] 268435440 none (zR [af 5 0,uI 6 48 5 12,af 7 6,jJ 8 2,lN 9 3 0 8 2,fq 10 0 2,zLc 11 10 2 48 9 2,ic 7 12 13,AA 15 9 3 1 9,fq 17 0 9,zLc 18 17 9 48 16 9,ic 14 19 20,Mx 22 16 3 0 3 1,zDt 26 23 25 16,mM 21 26 27 4])) .ret))
def YY:aI:=⟨[.rd false [.d],.rd true [.d,.d]],(.one false [.d])⟩
def NZ:aJ:=aA [(48,wN)]
def N7 (n:Nat):Int × aV->Option ((Bool) × Unit):=aB n NZ NY [[.i .i64],[.i .i64,.i .i64]] [.b] [] [4] .no
def N8:=N7 BIG
def YZ:TSp:=⟨YY,[[.i .i64],[.i .i64,.i .i64]],[.b],[],Ou.j .no,N8⟩
theorem akk:aL PG NZ 189 YY (NY.ht 28) .no=some (NY.wc NZ,[4]):=by kernel_rfl
theorem ahO:YZ.Ok PG 189:=aM (ae tY (ak PG)) akk (by kernel_rfl)
theorem akl (n) (a0) (a1):N7 n (a0,a1) = ((jH (a0,(1:Int),(12:Int))).bind fun r0=> bif r0.1 then (jH (a1.1,(0:Int),IntKind.wrap .i64 (a0-(1:Int)))).bind fun r1=> bif r1.1 then (jH (a1.2,(0:Int),IntKind.wrap .i64 (a0-(1:Int)))).bind fun r2=> bif r2.1 then some (decide (a1.1<a1.2)) else some false else some false else some false:Option (Bool)).bind fun x3=> some (x3,()):=by kernel_rfl
def SA:TC:=
 (zS [dG 2 0,kN 3 1] (zQ (.join [⟨4,[.b],false⟩] 16777200 none (zR [iY 5 2 0 5,iY 7 3 0 7,kY 9 6 8,af 10 9,oD 11 5 2 0 5,oD 13 5 3 0 5,zDw 15 12 14 5,dH 16 15 5,Mx 17 11 2 1 3 1,zDt 21 18 20 11,KZ 16 21 22 22 5 10,af 4 23])) .ret))
def ab9:aI:=⟨[.rd true [.d,.d],.rd true [.d,.d]],(.one false [.d])⟩
def SB:aJ:=aA []
def SC (n:Nat):aV × aV->Option ((Bool) × Unit):=aB n SB SA [[.i .i64,.i .i64],[.i .i64,.i .i64]] [.b] [] [4] .no
def SE:=SC BIG
def ab_:TSp:=⟨ab9,[[.i .i64,.i .i64],[.i .i64,.i .i64]],[.b],[],Ou.j .no,SE⟩
theorem al9:aL PG SB 192 ab9 (SA.ht 24) .no=some (SA.wc SB,[4]):=by kernel_rfl
theorem akm:ab_.Ok PG 192:=aM (ak PG) al9 (by kernel_rfl)
theorem al_ (n) (a0) (a1):SC n (a0,a1) = (bif decide (a0.1<a1.1) then some true else bif decide (a0.1=a1.1) then some (decide (a0.2<a1.2)) else some false:Option (Bool)).bind fun x0=> some (x0,()):=by kernel_rfl
def JC:TC:=
 (zS [bf 4] (zQ (.join [] 8589934576 (some [⟨4,[.b],false⟩]) (zS [xh 7 1 7,bn 9] (.block 0 (.loop [⟨9,[.i .i64],false⟩] 8589934192 (zS [kY 10 9 8] (zQ (zC 10 .skip (.exit 0)) (zQ (.join [] 4294965360 (some [⟨4,[.b],false⟩]) (.block 1 (zS [af 11 9,iW 12 7 9,zDy 13 7 2 12 2,KS 6 1000000007,af 5 11,gN 6 6 13] (zQ (.join [⟨31,[.b],false⟩] 4294950912 none (zR [af 14 0,Da 15 6 2 189 14,oF 17 16,dH 19 5 4,Uf 20 19 0 4,dH 21 20 4,fq 22 1 7,fq 23 5 7,zDr 24 23 7,CZ 25 22 24 7,zDB 26 22 2 25 2 7,zEv 27 6 2 7,qP 192 26 27 28 28 7,Qn 29 28 7,KZ 21 29 30 30 4 18])) (zC 31 (zS [bf 4] .ret) .skip))))) (zR [yT 32 9,af 9 32])))))))) (zS [af 33 1,kX 34 33,zAA 35 34 66,af 4 35] .ret)))
def Vm:aI:=⟨[.rd false [.d],.rd false ny],(.one false [.d])⟩
def JD:aJ:=aA [(189,YZ),(192,ab_)]
def JE (n:Nat):Int × (List aV)->Option ((Bool) × Unit):=aB n JD JC [[.i .i64],[.sl [.i .i64,.i .i64]]] [.b] [] [4] .no
def zH:=JE BIG
def JF:TSp:=⟨Vm,[[.i .i64],[.sl [.i .i64,.i .i64]]],[.b],[],Ou.j .no,zH⟩
theorem ahP:aL PG JD 144 Vm (JC.ht 36) .no=some (JC.wc JD,[4]):=by kernel_rfl
theorem Q7:JF.Ok PG 144:=aM (ae ahO (ae akm (ak PG))) ahP (by kernel_rfl)
theorem ahQ (n) (a0) (a1):JE n (a0,a1) =
 (aO n (X:=Int) (B:=(Unit) ⊕ (Bool)) (fun self1 x0=>
  bif decide (x0<(a1.length:Int)) then
   (bnd a1.length x0 fun n2=>
    a1[n2]?.bind fun y3=>
    ((N8 (a0,y3)).bind fun r4=>
     bif !r4.1 then
      some true
     else bif decide ((0:Int)<x0) then
      bnd a1.length (IntKind.wrap .i64 (x0-(1:Int))) fun n5=>
      a1[n5]?.bind fun y6=>
      (SE (y6,y3)).bind fun r7=>
      some !r7.1
     else some false:Option (Bool)).bind fun x8=>
    bif x8 then
     some (Sum.inr false)
    else some (Sum.inl ()):Option ((Unit) ⊕ (Bool))).bind fun y=>match y with
   | .inl x9=>
    self1 (IntKind.wrap .i64 (x0+(1:Int)))
   | .inr x9=>
    some (Sum.inr x9)
  else some (Sum.inl ())) (0:Int):Option ((Unit) ⊕ (Bool))).bind fun y=>match y with
 | .inl x10=>
  some (decide ((a1.length:Int)<=(66:Int)),())
 | .inr x10=>
  some (x10,()):=by kernel_rfl
def E9:TC:=
 (zS [bf 4] (zQ (zS [xh 7 1 7,af 9 0,Qo 10 8 9] (zC 10 (zS [bf 4] .ret) .skip)) (zQ (.join [] 2147481712 (some [⟨4,[.b],false⟩]) (zS [af 11 1,kX 12 11,bn 13] (.block 0 (.loop [⟨13,[.i .i64],false⟩] 2147475568 (zS [kY 14 13 12] (zQ (zC 14 .skip (.exit 0)) (zQ (.join [] 1073709168 (some [⟨4,[.b],false⟩]) (.block 1 (zS [af 15 13,mJ 16 11 13 1,af 5 15,af 6 17] (zQ (.join [⟨29,[.b],false⟩] 1073479680 none (zR [bM 18 6 5,Yx 20 48 18 19,oF 21 20,dH 23 1 4,dH 24 6 4,Ug 25 23 24 4,zEc 26 23 1 25 4,dH 27 6 4,F9 28 26 27 4 22])) (zC 29 (zS [bf 4] .ret) .skip))))) (zR [yT 30 13,af 13 30])))))))) (zS [fI 4] .ret))))
def Q8:aI:=⟨[.rd false [.d],.rd false gK],(.one false [.d])⟩
def E_:aJ:=aA [(48,wN)]
def Fa (n:Nat):Int × List (Int)->Option ((Bool) × Unit):=aB n E_ E9 [[.i .i64],[.sl [.i .i64]]] [.b] [] [4] .no
def Fb:=Fa BIG
def Q9:TSp:=⟨Q8,[[.i .i64],[.sl [.i .i64]]],[.b],[],Ou.j .no,Fb⟩
theorem ad4:aL PG E_ 59 Q8 (E9.ht 31) .no=some (E9.wc E_,[4]):=by kernel_rfl
theorem aca:Q9.Ok PG 59:=aM (ae tY (ak PG)) ad4 (by kernel_rfl)
theorem ad5 (n) (a0) (a1):Fa n (a0,a1) =
 bif !decide ((a1.length:Int)=a0) then
  some (false,())
 else (aO n (X:=Int) (B:=(Unit) ⊕ (Bool)) (fun self1 x0=>
  bif decide (x0<(a1.length:Int)) then
   (bnd a1.length x0 fun n2=>
    a1[n2]?.bind fun y3=>
    ((jH (y3,(0:Int),x0)).bind fun r4=>
     bif !r4.1 then
      some true
     else bnd a1.length y3 fun n5=>
     a1[n5]?.bind fun y6=>
     some (!decide (y6=y3)):Option (Bool)).bind fun x7=>
    bif x7 then
     some (Sum.inr false)
    else some (Sum.inl ()):Option ((Unit) ⊕ (Bool))).bind fun y=>match y with
   | .inl x8=>
    self1 (IntKind.wrap .i64 (x0+(1:Int)))
   | .inr x8=>
    some (Sum.inr x8)
  else some (Sum.inl ())) (0:Int):Option ((Unit) ⊕ (Bool))).bind fun y=>match y with
 | .inl x9=>
  some (true,())
 | .inr x9=>
  some (x9,()):=by kernel_rfl
def Fe:TC:=
 (zS [kN 3 1] (zQ (.join [⟨4,[.b],false⟩] 16777200 none (zR [af 5 0,uI 6 48 5 12,af 7 6,jJ 8 2,lN 9 3 0 8 2,zEw 48 9 1 10 10 2,ic 7 10 11,fq 13 0 7,AA 14 7 3 2 7,qP 144 13 15 16 16 7,ic 12 16 17,fq 19 0 13,C8 20 13 3 3,qP 59 19 21 22 22 13,mM 18 22 23 4])) .ret))
def Q_:aI:=⟨[.rd false [.d],.rd true Av],(.one false [.d])⟩
def Ff:aJ:=aA [(48,wN),(144,JF),(59,Q9)]
def Fg (n:Nat):Int × gT->Option ((Bool) × Unit):=aB n Ff Fe [[.i .i64],dx] [.b] [] [4] .no
def pI:=Fg BIG
def Fh:TSp:=⟨Q_,[[.i .i64],dx],[.b],[],Ou.j .no,pI⟩
theorem ad6:aL PG Ff 71 Q_ (Fe.ht 24) .no=some (Fe.wc Ff,[4]):=by kernel_rfl
theorem N9:Fh.Ok PG 71:=aM (ae tY (ae Q7 (ae aca (ak PG)))) ad6 (by kernel_rfl)
theorem ad7 (n) (a0) (a1):Fg n (a0,a1) = ((jH (a0,(1:Int),(12:Int))).bind fun r0=> bif r0.1 then (jH (a1.1,(1:Int),(100000:Int))).bind fun r1=> bif r1.1 then (zH (a0,a1.2.2.1)).bind fun r2=> bif r2.1 then (Fb (a0,a1.2.2.2)).bind fun r3=> some r3.1 else some false else some false else some false:Option (Bool)).bind fun x4=> some (x4,()):=by kernel_rfl
def BJ:TC:=
 (zS [[o1 2 (.lit [.s] [.string ⟨#[]⟩])]] (zS [xh 8 0 8,KY 10 86 9 7,gW 11 7 0,gW 12 7 1,pq 3 11] (zQ (.join [⟨3,[.s],false⟩] 1073733704 none (zS [af 13 0,kX 14 13,bn 15] (.block 0 (.loop [⟨3,[.s],false⟩,⟨15,[.i .i64],false⟩] 1073709128 (zS [kY 16 15 14] (zQ (zC 16 .skip (.exit 0)) (zQ (.block 1 (zS [Qu 17 13 15 2 2,KS 6 1000000007,gN 6 6 18] (zR [QA 19 3 6 0,Mt 22 21,bP 23 6 1,Mt 25 24,[o1 26 (.sli [.i .u8] [.t 22,.t 25])],Yy 27 26,rZ 28 19 27 3]))) (zR [yT 29 15,af 15 29])))))))) (zS [AL 30 3 2] .ret))))
def N_:aI:=⟨[.rd false ny],(.one false [.d])⟩
def BK:aJ:=aA [(86,lG)]
def BL (n:Nat):(List aV)->Option ((ByteArray) × Unit):=aB n BK BJ [[.sl [.i .i64,.i .i64]]] [.s] [] [2] .no
def tZ:=BL BIG
def BM:TSp:=⟨N_,[[.sl [.i .i64,.i .i64]]],[.s],[],Ou.j .no,tZ⟩
theorem acb:aL PG BK 165 N_ (BJ.ht 31) .no=some (BJ.wc BK,[2]):=by kernel_rfl
theorem La:BM.Ok PG 165:=aM (ae l7 (ak PG)) acb (by kernel_rfl)
theorem acd (n) (a0):BL n a0 = (iE (a0.length:Int)).bind fun r0=> (aO n (X:=ByteArray × Int) (B:=ByteArray) (fun self2 x1=> bif decide (x1.2<(a0.length:Int)) then bnd a0.length x1.2 fun n3=> a0[n3]?.bind fun y4=> bif decide (x1.1.size+(dw ([IntKind.wrap .u8 (y4.1),IntKind.wrap .u8 (y4.2)])).size<=4611686018427387904) then self2 (x1.1++(dw ([IntKind.wrap .u8 (y4.1),IntKind.wrap .u8 (y4.2)])),IntKind.wrap .i64 (x1.2+(1:Int))) else none else some x1.1) (r0.1.1,(0:Int)):Option (ByteArray)).bind fun x5=> some (x5,()):=by kernel_rfl
def yg:TC:=
 (zS [dG 3 1,[o1 4 (.lit [.s] [.string ⟨#[]⟩])],bf 5] (zQ (zS [af 12 0,Da 13 3 4 71 12,h_ 15 14] (zC 15 (zS [[o1 4 (.lit [.s] [.string ⟨#[]⟩])],bf 5] .ret) .skip)) (zS [uN 17 3 0 86,bK 19 16 19,Qw 20 16 0 1 6] (zS [[o1 8 (.lit [.s] [.string ⟨#[0]⟩])]] (zQ (.join [⟨8,[.s],false⟩] 12583168 none (zS [bP 22 3 1] (zC 23 (zR [[o1 8 (.lit [.s] [.string ⟨#[1]⟩])]]) .skip))) (zS [bM 24 6 8,o_ 26 24 25,uN 27 3 2 165,rZ 30 26 29 9] (zQ (.join [⟨9,[.s],false⟩] 35182224607744 none (zS [MB 31 3 3,bn 34] (.block 0 (.loop [⟨9,[.s],false⟩,⟨34,[.i .i64],false⟩] 35167192222208 (zS [kY 35 34 33] (zQ (zC 35 .skip (.exit 0)) (zQ (.block 1 (zS [mJ 36 32 34 1,af 11 37] (zR [af 38 9,af 39 11,Mt 40 39,Ul 41 40,Yy 42 41,rZ 43 38 42 9]))) (zR [yT 44 34,af 34 44])))))))) (zS [AL 45 9 4,fI 5] .ret))))))))
def Lb:aI:=⟨[.rd false [.d],.rd true Av],(.tup [(false,1),(false,1)] [.d,.d])⟩
def yh:aJ:=aA [(71,Fh),(86,lG),(165,BM)]
def yj (n:Nat):Int × gT->Option ((ByteArray × Bool) × Unit):=aB n yh yg [[.i .i64],dx] [.s,.b] [] [4,5] .no
def yl:=yj BIG
def Lc:TSp:=⟨Lb,[[.i .i64],dx],[.s,.b],[],Ou.j .no,yl⟩
theorem Zx:aL PG yh 87 Lb (yg.ht 46) .no=some (yg.wc yh,[4,5]):=by kernel_rfl
theorem Xu:Lc.Ok PG 87:=aM (ae N9 (ae l7 (ae La (ak PG)))) Zx (by kernel_rfl)
theorem Zy (n) (a0) (a1):yj n (a0,a1) = (pI (a0,a1)).bind fun r0=> bif !r0.1 then some (((ByteArray.mk #[]),false),()) else (iE a1.1).bind fun r1=> (bif a1.2.1 then some (ByteArray.mk #[1]) else some (ByteArray.mk #[0]):Option (ByteArray)).bind fun x2=> bif decide (r1.1.1.size+x2.size<=4611686018427387904) then (tZ a1.2.2.1).bind fun r3=> bif decide ((r1.1.1++x2).size+r3.1.size<=4611686018427387904) then (aO n (X:=ByteArray × Int) (B:=ByteArray) (fun self5 x4=> bif decide (x4.2<(a1.2.2.2.length:Int)) then bnd a1.2.2.2.length x4.2 fun n6=> a1.2.2.2[n6]?.bind fun y7=> bif decide (x4.1.size+(dw ([IntKind.wrap .u8 (y7)])).size<=4611686018427387904) then self5 (x4.1++(dw ([IntKind.wrap .u8 (y7)])),IntKind.wrap .i64 (x4.2+(1:Int))) else none else some x4.1) ((r1.1.1++x2)++r3.1,(0:Int)):Option (ByteArray)).bind fun x8=> some ((x8,true),()) else none else none:=by kernel_rfl
def BN:TC:=
 (zS [[o1 2 (.lit [.s] [.string ⟨#[]⟩])],bf 3] (zQ (zS [af 6 0,Mv 7 6,w_ 8 7 20000] (zC 8 (zS [[o1 2 (.lit [.s] [.string ⟨#[]⟩])],bf 3] .ret) .skip)) (zS [af 10 0,Mv 11 10,KY 12 86 11 9,gW 13 9 0,gW 14 9 1,pq 4 13] (zS [bM 15 4 0,rZ 17 15 16 2,fI 3] .ret))))
def Oa:aI:=⟨[.rd false [.d]],(.tup [(false,1),(false,1)] [.d,.d])⟩
def BP:aJ:=aA [(86,lG)]
def BQ (n:Nat):ByteArray->Option ((ByteArray × Bool) × Unit):=aB n BP BN [[.s]] [.s,.b] [] [2,3] .no
def t_:=BQ BIG
def Ob:TSp:=⟨Oa,[[.s]],[.s,.b],[],Ou.j .no,t_⟩
theorem ace:aL PG BP 88 Oa (BN.ht 18) .no=some (BN.wc BP,[2,3]):=by kernel_rfl
theorem Zz:Ob.Ok PG 88:=aM (ae l7 (ak PG)) ace (by kernel_rfl)
theorem acf (n) (a0):BQ n a0 = bif decide ((20000:Int)<(a0.size:Int)) then some (((ByteArray.mk #[]),false),()) else (iE (a0.size:Int)).bind fun r0=> bif decide (r0.1.1.size+a0.size<=4611686018427387904) then some ((r0.1.1++a0,true),()) else none:=by kernel_rfl
def JG:TC:=
 (zS [kN 3 1] (zQ (.seq (.join [⟨30,[.b],false⟩] 2147483616 none (zR [af 5 0,uI 6 48 5 12,h_ 7 6,af 8 7,rX 9 3,Az 10 3 0 9 3,CY 48 10 1 100000 11 11 3,kM 12 11 3 8,dH 15 0 9,oD 16 9 3 2 9,yY 144 15 17 18 18 9,kM 19 18 9 14,pu 22 16 3 3,zIf 24 23 16,dH 25 24 16,C8 26 20 3 1,[o2 28 (.data (.bin .neq) [.t 27,kD 3]) 20 true],KZ 25 28 29 29 16 21])) (zC 30 (zS [bf 4] .ret) .skip)) (zQ (.join [] 576460750155939856 (some [⟨4,[.b],false⟩]) (zS [bP 31 3 1] (.block 0 (zQ (.join [⟨33,[.b],false⟩] 60129542144 none (zS [C_ 34 32 1] (zC 33 .skip (zR [C_ 35 32 2])))) (zC 33 (zS [MB 36 3 2,jq 39 38 1 4] .ret) (zS [jq 41 32 3 40] (zC 40 (zQ (.join [⟨4,[.b],false⟩] 9002801208229904 none (zR [MB 42 3 2,pg 45 44 0,AO 46 45 4 3 3 4,fq 49 0 4,zLc 50 49 4 48 48 4,mM 46 51 52 4])) .ret) (zS [jq 54 32 4 53] (zC 53 (zS [MB 55 3 2,w_ 58 57 0,af 4 58] .ret) .skip))))))))) (zS [bf 4] .ret))))
def Vn:aI:=⟨[.rd false [.d],.rd true Aw],(.one false [.d])⟩
def JH:aJ:=aA [(48,wN),(144,JF)]
def JI (n:Nat):Int × kP->Option ((Bool) × Unit):=aB n JH JG [[.i .i64],dP] [.b] [] [4] .no
def uf:=JI BIG
def JJ:TSp:=⟨Vn,[[.i .i64],dP],[.b],[],Ou.j .no,uf⟩
theorem ahR:aL PG JH 64 Vn (JG.ht 59) .no=some (JG.wc JH,[4]):=by kernel_rfl
theorem Ra:JJ.Ok PG 64:=aM (ae tY (ae Q7 (ak PG))) ahR (by kernel_rfl)
theorem ahS (n) (a0) (a1):JI n (a0,a1) = ((jH (a0,(1:Int),(12:Int))).bind fun r0=> bif !r0.1 then some true else (jH (a1.1,(1:Int),(100000:Int))).bind fun r1=> bif !r1.1 then some true else (zH (a0,a1.2.2.1)).bind fun r2=> bif !r2.1 then some true else bif !decide (a1.2.2.2=(0:Int)) then some (!decide (a1.2.1=(3:Int))) else some false:Option (Bool)).bind fun x3=> bif x3 then some (false,()) else ((bif decide (a1.2.1=(1:Int)) then some true else some (decide (a1.2.1=(2:Int))):Option (Bool)).bind fun x4=> bif x4 then some (Sum.inr (decide ((a1.2.2.1.length:Int)=(1:Int)))) else bif decide (a1.2.1=(3:Int)) then (bif decide ((a1.2.2.1.length:Int)=(0:Int)) then (jH (a1.2.2.2,(0:Int),IntKind.wrap .i64 (a0-(1:Int)))).bind fun r5=> some r5.1 else some false:Option (Bool)).bind fun x6=> some (Sum.inr x6) else bif decide (a1.2.1=(4:Int)) then some (Sum.inr (decide ((0:Int)<(a1.2.2.1.length:Int)))) else some (Sum.inl ()):Option ((Unit) ⊕ (Bool))).bind fun y=>match y with | .inl x7=> some (false,()) | .inr x7=> some (x7,()):=by kernel_rfl
def BR:TC:=
 (zS [dG 3 1,[o1 4 (.lit [.s] [.string ⟨#[]⟩])],bf 5] (zQ (zS [af 10 0,Da 11 3 4 64 10,h_ 13 12] (zC 13 (zS [[o1 4 (.lit [.s] [.string ⟨#[]⟩])],bf 5] .ret) .skip)) (zS [uN 15 3 0 86,bK 17 14 17,Qw 18 14 0 1 6] (zS [uN 21 3 3 86,bK 23 20 23,Qw 24 20 0 1 8] (zS [af 26 6,af 33 8,bP 27 3 1,Mt 29 28,Ul 30 29,Yy 31 30,o_ 32 26 31,o_ 34 32 33,uN 35 3 2 165,rZ 38 34 37 4,fI 5] .ret)))))
def Oc:aI:=⟨[.rd false [.d],.rd true Aw],(.tup [(false,1),(false,1)] [.d,.d])⟩
def BS:aJ:=aA [(64,JJ),(86,lG),(165,BM)]
def BU (n:Nat):Int × kP->Option ((ByteArray × Bool) × Unit):=aB n BS BR [[.i .i64],dP] [.s,.b] [] [4,5] .no
def BX:=BU BIG
def Od:TSp:=⟨Oc,[[.i .i64],dP],[.s,.b],[],Ou.j .no,BX⟩
theorem acg:aL PG BS 89 Oc (BR.ht 39) .no=some (BR.wc BS,[4,5]):=by kernel_rfl
theorem ZB:Od.Ok PG 89:=aM (ae Ra (ae l7 (ae La (ak PG)))) acg (by kernel_rfl)
theorem ach (n) (a0) (a1):BU n (a0,a1) = (uf (a0,a1)).bind fun r0=> bif !r0.1 then some (((ByteArray.mk #[]),false),()) else (iE a1.1).bind fun r1=> (iE a1.2.2.2).bind fun r2=> bif decide (r1.1.1.size+(dw ([IntKind.wrap .u8 (a1.2.1)])).size<=4611686018427387904) then bif decide ((r1.1.1++(dw ([IntKind.wrap .u8 (a1.2.1)]))).size+r2.1.1.size<=4611686018427387904) then (tZ a1.2.2.1).bind fun r3=> bif decide (((r1.1.1++(dw ([IntKind.wrap .u8 (a1.2.1)])))++r2.1.1).size+r3.1.size<=4611686018427387904) then some ((((r1.1.1++(dw ([IntKind.wrap .u8 (a1.2.1)])))++r2.1.1)++r3.1,true),()) else none else none else none:=by kernel_rfl
def JK:TC:=
 (zS [dG 3 1,[o1 4 (.lit [.s] [.string ⟨#[]⟩])],bf 5] (zS [[o1 6 (.lit [.s] [.string ⟨#[]⟩])],bf 7] (zQ (.join [⟨6,[.s],false⟩,⟨7,[.b],false⟩] 664613997892457936451903530140172224 none (.block 0 (zQ (.join [⟨18,[.b],false⟩] 137438691328 none (zR [bP 19 3 0,pg 21 20 1,AO 22 21 3 3 5 3,Qq 25 24 3,ic 22 25 26,jJ 28 8,Qr 29 3 6 28 4 8,zGz 83 29 30 30 8,ic 27 30 31,jJ 33 13,Qr 34 3 10 33 4 13,zGz 84 34 35 35 13,mM 32 35 36 18])) (zC 18 (zR [K3 38 3 1 4,KY 40 85 39 37,Qw 41 37 0 1 6]) (zQ (.join [⟨43,[.b],false⟩] 9223363240761753600 none (zR [bP 44 3 0,pg 46 45 2,af 47 46,jJ 48 3,Qr 49 3 1 48 4 3,[o2 50 (.build gy []) 3 true],zIg 51 49 50,ic 47 51 52,jJ 54 9,Qr 55 3 10 54 4 9,zGz 84 55 56 56 9,ic 53 56 57,C8 59 14 3 5,zEw 48 60 0 61 61 14,mM 58 61 62 43])) (zC 43 (zS [uN 64 3 5 86,bK 66 63 66,Qw 67 63 0 1 8] (zS [af 70 0,K3 71 3 6 4,KX 73 87 70 72 69 0 1 10] (zS [af 77 10,KY 78 88 77 76,Qw 79 76 0 1 12] (zR [bM 81 8 12,o_ 83 81 82,af 84 11,pq 6 83])))) (zQ (.join [⟨85,[.b],false⟩] 40564780521677113179760911974400 none (zR [bP 86 3 0,pg 88 87 3,af 89 88,jJ 90 3,Qr 91 3 1 90 4 3,[o2 92 (.build gy []) 3 true],zIg 93 91 92,ic 89 93 94,AA 96 9 3 5 9,Qq 98 97 9,ic 95 98 99,jJ 101 14,Qr 102 3 6 101 4 14,zGz 83 102 103 103 14,mM 100 103 104 85])) (zC 85 (zS [af 106 0,K3 107 3 10 4,KX 109 89 106 108 105 0 1 14] (zS [af 113 14,KY 114 88 113 112,Qw 115 112 0 1 16] (zR [bM 117 16 15,pq 6 117]))) .skip)))))))) (zQ (zS [af 119 7,h_ 120 119] (zC 120 (zS [[o1 4 (.lit [.s] [.string ⟨#[]⟩])],bf 5] .ret) .skip)) (zS [bP 121 3 0,Mt 123 122,Ul 124 123,Yy 125 124,af 126 6,rZ 127 125 126 4,fI 5] .ret)))))
def Vo:aI:=⟨[.rd false [.d],.rd true Ct2],(.tup [(false,1),(false,1)] [.d,.d])⟩
def JL:aJ:=aA [(83,Q6),(84,Vi),(85,Vl),(48,wN),(86,lG),(87,Lc),(88,Ob),(89,Od)]
def JM (n:Nat):Int × YA->Option ((ByteArray × Bool) × Unit):=aB n JL JK [[.i .i64],oC] [.s,.b] [] [4,5] .no
def nY:=JM BIG
def JN:TSp:=⟨Vo,[[.i .i64],oC],[.s,.b],[],Ou.j .no,nY⟩
theorem ahT:aL PG JL 23 Vo (JK.ht 128) .no=some (JK.wc JL,[4,5]):=by kernel_rfl
theorem Rb:JN.Ok PG 23:=aM (ae ab8 (ae ad2 (ae ad3 (ae tY (ae l7 (ae Xu (ae Zz (ae ZB (ak PG))))))))) ahT (by kernel_rfl)
theorem ahU (n) (a0) (a1):JM n (a0,a1) = ((bif decide (a1.1=(1:Int)) then bif decide (a1.2.2.2.2.2.1=(0:Int)) then (wM (a1.2.2.2.2.2.2.1,a1.2.2.2.2.2.2.2.1,a1.2.2.2.2.2.2.2.2.1,a1.2.2.2.2.2.2.2.2.2.1)).bind fun r0=> bif r0.1 then (zG a1.2.2.2.2.2.2.2.2.2.2).bind fun r1=> some r1.1 else some false else some false else some false:Option (Bool)).bind fun x2=> bif x2 then (JB (a1.2.1,a1.2.2.1,a1.2.2.2.1,a1.2.2.2.2.1)).bind fun r3=> some (r3.1.1,r3.1.2) else (bif decide (a1.1=(2:Int)) then bif (decide (a1.2.1=(0:Int))&&(decide (a1.2.2.1=(0:Int))&&(decide (a1.2.2.2.1=(0:Int))&&(decide (a1.2.2.2.2.1=(0:Int))&&true)))) then (zG a1.2.2.2.2.2.2.2.2.2.2).bind fun r4=> bif r4.1 then (jH (a1.2.2.2.2.2.1,(0:Int),(100000:Int))).bind fun r5=> some r5.1 else some false else some false else some false:Option (Bool)).bind fun x6=> bif x6 then (iE a1.2.2.2.2.2.1).bind fun r7=> (yl (a0,(a1.2.2.2.2.2.2.1,a1.2.2.2.2.2.2.2.1,a1.2.2.2.2.2.2.2.2.1,a1.2.2.2.2.2.2.2.2.2.1))).bind fun r8=> (t_ r8.1.1).bind fun r9=> bif decide (r7.1.1.size+r9.1.1.size<=4611686018427387904) then some (r7.1.1++r9.1.1,r8.1.2) else none else (bif decide (a1.1=(3:Int)) then bif (decide (a1.2.1=(0:Int))&&(decide (a1.2.2.1=(0:Int))&&(decide (a1.2.2.2.1=(0:Int))&&(decide (a1.2.2.2.2.1=(0:Int))&&true)))) then bif decide (a1.2.2.2.2.2.1=(0:Int)) then (wM (a1.2.2.2.2.2.2.1,a1.2.2.2.2.2.2.2.1,a1.2.2.2.2.2.2.2.2.1,a1.2.2.2.2.2.2.2.2.2.1)).bind fun r10=> some r10.1 else some false else some false else some false:Option (Bool)).bind fun x11=> bif x11 then (BX (a0,a1.2.2.2.2.2.2.2.2.2.2)).bind fun r12=> (t_ r12.1.1).bind fun r13=> some (r13.1.1,r12.1.2) else some ((ByteArray.mk #[]),false):Option (ByteArray × Bool)).bind fun x14=> bif !x14.2 then some (((ByteArray.mk #[]),false),()) else bif decide ((dw ([IntKind.wrap .u8 (a1.1)])).size+x14.1.size<=4611686018427387904) then some (((dw ([IntKind.wrap .u8 (a1.1)]))++x14.1,true),()) else none:=by kernel_rfl
def ym:TC:=
 (zS [bn 2] (zQ (.seq (.join [⟨18,[.b],false⟩] 524280 none (zR [bH 3,qM 4 3,yU 5 4,qN 6 0 2 5,af 7 6,zIh 8,zIi 9 8 4,KU 10 9 4,Az 11 0 1 10 4,zIh 12,zIi 13 12 4,KU 14 13 4,Az 15 0 0 14 4,zIj 16 15 4,[o2 17 (.data (.bin .geq) [.t 11,.t 16]) 4 false],uJ 7 17 18])) (zC 18 (zS [bH 19,nz 20 19,zIk 21] (zS [bn 2] .ret)) .skip)) (zS [bH 22,mK 23 22 0 1,yT 26 25,nz 27 22,yV 0 0 1 28 26] (zS [bH 29,bH 33,mK 30 29 0 0,mK 34 33 0 1,F6 37 36,zIm 38 32 37,zAo 39 38,af 2 39] .ret))))
def Ld:aI:=⟨[.mp [.d,.d,.d]],(.one false [.d])⟩
def yn:aJ:=aA []
def yu (n:Nat):(ByteArray × Int × Bool)->Option ((Int) × ByteArray × Int × Bool):=aB n yn ym [[.s,.i .i64,.b]] [.i .i64] [.s,.i .i64,.b] [2] (.mp 0)
def dE:=yu BIG
def lS:TSp:=⟨Ld,[[.s,.i .i64,.b]],[.i .i64],[.s,.i .i64,.b],Ou.j (.mp 0),dE⟩
theorem ZC:aL PG yn 90 Ld (ym.ht 40) (.mp 0)=some (ym.wc yn,[2]):=by kernel_rfl
theorem nZ:lS.Ok PG 90:=aM (ak PG) ZC (by kernel_rfl)
theorem ZE (n) (a0):yu n a0 = (bif a0.2.2 then some true else some (decide ((a0.1.size:Int)<=a0.2.1)):Option (Bool)).bind fun x0=> bif x0 then some ((0:Int),(a0.1,a0.2.1,true)) else bnd a0.1.size (IntKind.wrap .i64 ((IntKind.wrap .i64 (a0.2.1+(1:Int)))-(1:Int))) fun n1=>a0.1[n1]?.bind fun b2=> some (IntKind.wrap .i64 ((b2.toNat:Int)),(a0.1,IntKind.wrap .i64 (a0.2.1+(1:Int)),a0.2.2)):=by kernel_rfl
def JO:TC:=
 (zS [bn 4,bn 5,bf 6] (zQ (zS [bM 11 1 0,Mv 13 12,Yx 14 48 11 13,h_ 15 14] (zC 15 (zS [bn 4,bn 5,bf 6] .ret) .skip)) (zS [bn 7,mI 8 1] (zQ (.join [] 144115188075792368 (some [⟨4,[.i .i64],false⟩,⟨5,[.i .i64],false⟩,⟨6,[.b],false⟩]) (zS [AL 16 1 9] (.block 0 (.loop [⟨7,[.i .i64],false⟩,⟨8,[.i .i64],false⟩,⟨9,[.i .i64],false⟩] 144115188075726832 (zQ (.seq (.join [⟨26,[.b],false⟩] 134086656 none (zR [bM 17 9 0,Mv 19 18,kY 20 17 19,Ga 21 20 9 4,fq 23 1 4,zEu 24 23 5 4,zDt 25 22 24 4,oZ 21 25 26])) (zC 26 .skip (.exit 0))) (zQ (.block 1 (zS [bM 29 0 9,zIm 31 29 30,zAo 32 31,af 10 32] (zS [bM 33 7 10,zIa 35 34,af 36 8,[o1 37 (.data (.bin .mul) [.t 35,.t 36])],rZ 38 33 37 7] (zS [af 39 8,zAk 40 39 128,af 8 40] (zS [af 41 10,[o1 42 (.data (.bin .lss) [.t 41,kD 128])]] (zC 42 (zQ (.seq (.join [⟨53,[.b],false⟩] 18005602416459776 none (zR [af 43 10,pg 44 43 0,Ga 45 44 9 2,fq 47 1 2,zGA 48 46 47 2,ic 45 48 49,dH 51 7 7,Uf 52 51 1000000000 7,uJ 50 52 53])) (zC 53 (.exit 0) .skip)) (zS [bM 54 7 9,yT 56 55,af 4 54,af 5 56,fI 6] .ret)) .skip)))))) (zR [eu 27 9 9]))))))) (zS [bn 4,bn 5,bf 6] .ret)))))
def Vp:aI:=⟨[.rd false [.d],.rd false [.d]],(.tup [(false,1),(false,1),(false,1)] [.d,.d,.d])⟩
def JP:aJ:=aA [(48,wN)]
def JQ (n:Nat):ByteArray × Int->Option (WY × Unit):=aB n JP JO [[.s],[.i .i64]] [.i .i64,.i .i64,.b] [] [4,5,6] .no
def zI:=JQ BIG
def JR:TSp:=⟨Vp,[[.s],[.i .i64]],[.i .i64,.i .i64,.b],[],Ou.j .no,zI⟩
theorem ahV:aL PG JP 166 Vp (JO.ht 57) .no=some (JO.wc JP,[4,5,6]):=by kernel_rfl
theorem Re:JR.Ok PG 166:=aM (ae tY (ak PG)) ahV (by kernel_rfl)
theorem ahW (n) (a0) (a1):JQ n (a0,a1) = (jH (a1,(0:Int),(a0.size:Int))).bind fun r0=> bif !r0.1 then some (((0:Int),(0:Int),false),()) else (aO n (X:=Int × Int × Int) (B:=(Unit) ⊕ WY) (fun self2 x1=> (bif decide (x1.2.2<(a0.size:Int)) then some (decide (x1.2.2<(IntKind.wrap .i64 (a1+(5:Int))))) else some false:Option (Bool)).bind fun x3=> bif x3 then bnd a0.size x1.2.2 fun n4=>a0[n4]?.bind fun b5=> bif decide ((128:Int)=0) then none else bif decide ((IntKind.wrap .i64 ((b5.toNat:Int)))<(128:Int)) then (bif decide ((IntKind.wrap .i64 ((b5.toNat:Int)))=(0:Int)) then bif decide (a1<x1.2.2) then some true else some (decide ((1000000000:Int)<(IntKind.wrap .i64 (x1.1+(IntKind.wrap .i64 ((Int.tmod (IntKind.wrap .i64 ((b5.toNat:Int))) (128:Int))*x1.2.1)))))) else some (decide ((1000000000:Int)<(IntKind.wrap .i64 (x1.1+(IntKind.wrap .i64 ((Int.tmod (IntKind.wrap .i64 ((b5.toNat:Int))) (128:Int))*x1.2.1)))))):Option (Bool)).bind fun x6=> bif x6 then some (Sum.inl ()) else some (Sum.inr (IntKind.wrap .i64 (x1.1+(IntKind.wrap .i64 ((Int.tmod (IntKind.wrap .i64 ((b5.toNat:Int))) (128:Int))*x1.2.1))),IntKind.wrap .i64 (x1.2.2+(1:Int)),true)) else self2 (IntKind.wrap .i64 (x1.1+(IntKind.wrap .i64 ((Int.tmod (IntKind.wrap .i64 ((b5.toNat:Int))) (128:Int))*x1.2.1))),IntKind.wrap .i64 (x1.2.1*(128:Int)),IntKind.wrap .i64 (x1.2.2+(1:Int))) else some (Sum.inl ())) ((0:Int),(1:Int),a1):Option ((Unit) ⊕ WY)).bind fun y=>match y with | .inl x7=> some (((0:Int),(0:Int),false),()) | .inr x7=> some (x7,()):=by kernel_rfl
def yw:TC:=
 (zS [bn 2] (zS [bH 7,bH 11,qM 8 7,yU 9 8,qN 10 0 0 9,mK 12 11 0 1,Qv 15 166 10 14 6,gW 16 6 0,gW 17 6 1,gW 18 6 2,pq 3 16,af 5 18] (zQ (.seq (.join [⟨26,[.b],false⟩] 133693440 none (zR [bH 19,mK 20 19 0 2,y_ 23 22 5 4,uK 25 24 4 23])) (zC 26 (zS [bH 27,nz 28 27,zIk 29] (zS [bn 2] .ret)) .skip)) (zS [qQ 30 4,nz 32 30,yV 0 0 1 33 31] (zS [AL 34 3 2] .ret)))))
def Lf:aI:=⟨[.mp [.d,.d,.d]],(.one false [.d])⟩
def yx:aJ:=aA [(166,JR)]
def yz (n:Nat):(ByteArray × Int × Bool)->Option ((Int) × ByteArray × Int × Bool):=aB n yx yw [[.s,.i .i64,.b]] [.i .i64] [.s,.i .i64,.b] [2] (.mp 0)
def df:=yz BIG
def lT:TSp:=⟨Lf,[[.s,.i .i64,.b]],[.i .i64],[.s,.i .i64,.b],Ou.j (.mp 0),df⟩
theorem ZF:aL PG yx 91 Lf (yw.ht 35) (.mp 0)=some (yw.wc yx,[2]):=by kernel_rfl
theorem n_:lT.Ok PG 91:=aM (ae Re (ak PG)) ZF (by kernel_rfl)
theorem ZG (n) (a0):yz n a0 = (zI (a0.1,a0.2.1)).bind fun r0=> (bif a0.2.2 then some true else some !r0.1.2.2:Option (Bool)).bind fun x1=> bif x1 then some ((0:Int),(a0.1,a0.2.1,true)) else some (r0.1.1,(a0.1,r0.1.2.1,a0.2.2)):=by kernel_rfl
def BZ:TC:=
 (zS [[o1 4 (.lit [.s] [.string ⟨#[]⟩])],bn 5,bf 6] (zS [bM 11 0 1,Qv 13 166 11 12 10,zJh 14 10 0 1,gW 16 10 2,pq 7 14,af 9 16] (zQ (.seq (.join [⟨30,[.b],false⟩] 2147352576 none (zR [af 17 9,oF 18 17,dH 20 7 2,Uf 21 20 20000 2,uJ 19 21 22,y_ 23 22 7 6,dH 25 0 6,zIj 26 25 6,dH 27 8 6,[o2 28 (.data (.bin .sub) [.t 26,.t 27]) 6 false,o2 29 (.data (.bin .gtr) [.t 24,.t 28]) 6 false],uJ 23 29 30])) (zC 30 (zS [[o1 4 (.lit [.s] [.string ⟨#[]⟩])],bn 5,bf 6] .ret) .skip)) (zS [bM 31 0 8,bM 33 8 7,o_ 35 33 34,[o1 36 (.data (.ssl true true) [.t 31,.t 32,.t 35])],bM 37 8 7,o_ 39 37 38,bM 4 36 39,fI 6] .ret))))
def Oe:aI:=⟨[.rd false [.d],.rd false [.d]],(.tup [(false,1),(false,1),(false,1)] [.d,.d,.d])⟩
def B_:aJ:=aA [(166,JR)]
def Ca (n:Nat):ByteArray × Int->Option ((ByteArray × Int × Bool) × Unit):=aB n B_ BZ [[.s],[.i .i64]] [.s,.i .i64,.b] [] [4,5,6] .no
def Cb:=Ca BIG
def Og:TSp:=⟨Oe,[[.s],[.i .i64]],[.s,.i .i64,.b],[],Ou.j .no,Cb⟩
theorem aci:aL PG B_ 168 Oe (BZ.ht 40) .no=some (BZ.wc B_,[4,5,6]):=by kernel_rfl
theorem ZH:Og.Ok PG 168:=aM (ae Re (ak PG)) aci (by kernel_rfl)
theorem acj (n) (a0) (a1):Ca n (a0,a1) = (zI (a0,a1)).bind fun r0=> (bif !r0.1.2.2 then some true else bif decide ((20000:Int)<r0.1.1) then some true else some (decide ((IntKind.wrap .i64 ((a0.size:Int)-r0.1.2.1))<r0.1.1)):Option (Bool)).bind fun x1=> bif x1 then some (((ByteArray.mk #[]),(0:Int),false),()) else bif decide (0<=r0.1.2.1/\r0.1.2.1<=(IntKind.wrap .i64 (r0.1.2.1+r0.1.1))/\(IntKind.wrap .i64 (r0.1.2.1+r0.1.1))<=a0.size) then some ((a0.extract (Int.toNat r0.1.2.1) (Int.toNat (IntKind.wrap .i64 (r0.1.2.1+r0.1.1))),IntKind.wrap .i64 (r0.1.2.1+r0.1.1),true),()) else none:=by kernel_rfl
def ug:TC:=
 (zS [[o1 2 (.lit [.s] [.string ⟨#[]⟩])]] (zS [bH 7,bH 11,qM 8 7,yU 9 8,qN 10 0 0 9,mK 12 11 0 1,Qv 15 168 10 14 6,gW 16 6 0,gW 17 6 1,gW 18 6 2,pq 3 16,af 5 18] (zQ (.seq (.join [⟨26,[.b],false⟩] 133693440 none (zR [bH 19,mK 20 19 0 2,y_ 23 22 5 4,uK 25 24 4 23])) (zC 26 (zS [bH 27,nz 28 27,zIk 29] (zS [[o1 2 (.lit [.s] [.string ⟨#[]⟩])]] .ret)) .skip)) (zS [qQ 30 4,nz 32 30,yV 0 0 1 33 31] (zS [AL 34 3 2] .ret)))))
def Dv:aI:=⟨[.mp [.d,.d,.d]],(.one false [.d])⟩
def uh:aJ:=aA [(168,Og)]
def ui (n:Nat):(ByteArray × Int × Bool)->Option ((ByteArray) × ByteArray × Int × Bool):=aB n uh ug [[.s,.i .i64,.b]] [.s] [.s,.i .i64,.b] [2] (.mp 0)
def mR:=ui BIG
def Dw:TSp:=⟨Dv,[[.s,.i .i64,.b]],[.s],[.s,.i .i64,.b],Ou.j (.mp 0),mR⟩
theorem Vq:aL PG uh 93 Dv (ug.ht 35) (.mp 0)=some (ug.wc uh,[2]):=by kernel_rfl
theorem SF:Dw.Ok PG 93:=aM (ae ZH (ak PG)) Vq (by kernel_rfl)
theorem Vr (n) (a0):ui n a0 = (Cb (a0.1,a0.2.1)).bind fun r0=> (bif a0.2.2 then some true else some !r0.1.2.2:Option (Bool)).bind fun x1=> bif x1 then some ((ByteArray.mk #[]),(a0.1,a0.2.1,true)) else some (r0.1.1,(a0.1,r0.1.2.1,a0.2.2)):=by kernel_rfl
def uj:TC:=
 (zS [zGb 2] (zS [zGb 3] (zS [F_ 7 91 0 0,af 4 8] (zQ (.join [⟨0,[.s,.i .i64,.b],false⟩,⟨3,[.sl [.i .i64,.i .i64]],false⟩] 1073741433 none (.block 0 (.loop [⟨0,[.s,.i .i64,.b],false⟩,⟨3,[.sl [.i .i64,.i .i64]],false⟩,⟨4,[.i .i64],false⟩] 1073741433 (zQ (.seq (.join [⟨17,[.b],false⟩] 261632 none (zR [af 9 4,w_ 10 9 0,af 11 10,zHz 12 2,zIn 13 12 2,xg 14 13 2,lN 15 0 2 14 2,Qn 16 15 2,oZ 11 16 17])) (zC 17 .skip (.exit 0))) (zQ (.block 1 (zS [F_ 20 90 0 0,af 5 21] (zS [F_ 22 90 0 0,af 6 23] (zR [bK 3 24 3,bM 25 5 6,Mr 27 25 26,QC 28 27 24 24 3])))) (zR [af 18 4,F6 19 18,af 4 19])))))) (zS [AB 3 30 3 2] .ret)))))
def Dx:aI:=⟨[.mp [.d,.d,.d]],(.one false ny)⟩
def uk:aJ:=aA [(91,lT),(90,lS)]
def ul (n:Nat):(ByteArray × Int × Bool)->Option ((List aV) × ByteArray × Int × Bool):=aB n uk uj [[.s,.i .i64,.b]] [.sl [.i .i64,.i .i64]] [.s,.i .i64,.b] [2] (.mp 0)
def iN:=ul BIG
def um:TSp:=⟨Dx,[[.s,.i .i64,.b]],[.sl [.i .i64,.i .i64]],[.s,.i .i64,.b],Ou.j (.mp 0),iN⟩
theorem Vs:aL PG uk 167 Dx (uj.ht 31) (.mp 0)=some (uj.wc uk,[2]):=by kernel_rfl
theorem Cc:um.Ok PG 167:=aM (ae n_ (ae nZ (ak PG))) Vs (by kernel_rfl)
theorem Vt (n) (a0):ul n a0 = (df a0).bind fun r0=> (aO n (X:=(ByteArray × Int × Bool) × (List aV) × Int) (B:=(ByteArray × Int × Bool) × (List aV)) (fun self2 x1=> (bif decide ((0:Int)<x1.2.2) then some !x1.1.2.2 else some false:Option (Bool)).bind fun x3=> bif x3 then (dE x1.1).bind fun r4=> (dE r4.2).bind fun r5=> bif decide (x1.2.1.length+([(r4.1,r5.1)]).length<=4294967296) then self2 (r5.2,x1.2.1++([(r4.1,r5.1)]),IntKind.wrap .i64 (x1.2.2-(1:Int))) else none else some (x1.1,x1.2.1)) (r0.2,[],r0.1):Option ((ByteArray × Int × Bool) × (List aV))).bind fun x6=> some (x6.2,x6.1):=by kernel_rfl
def vT:TC:=
 (zS [bf 2] (zQ (.join [⟨2,[.b],false⟩] 1048572 none (zR [bH 3,qM 4 3,yU 5 4,qN 6 0 2 5,h_ 7 6,af 8 7,zHz 9 5,zIn 10 9 5,xg 11 10 5,lN 12 0 1 11 5,zHz 13 5,zIn 14 13 5,xg 15 14 5,lN 16 0 0 15 5,[o2 17 (.data .slen [.t 16]) 5 true],Qp 18 12 17 5,mM 8 18 19 2])) .ret))
def Gr:aI:=⟨[.mp [.d,.d,.d]],(.one false [.d])⟩
def vU:aJ:=aA []
def kQ (n:Nat):(ByteArray × Int × Bool)->Option ((Bool) × ByteArray × Int × Bool):=aB n vU vT [[.s,.i .i64,.b]] [.b] [.s,.i .i64,.b] [2] (.mp 0)
def gP:=kQ BIG
def og:TSp:=⟨Gr,[[.s,.i .i64,.b]],[.b],[.s,.i .i64,.b],Ou.j (.mp 0),gP⟩
theorem Xv:aL PG vU 95 Gr (vT.ht 20) (.mp 0)=some (vT.wc vU,[2]):=by kernel_rfl
theorem uo:og.Ok PG 95:=aM (ak PG) Xv (by kernel_rfl)
theorem vV (n) (a0):kQ n a0 = (bif !a0.2.2 then some (decide (a0.2.1=(a0.1.size:Int))) else some false:Option (Bool)).bind fun x0=> some (x0,a0):=by kernel_rfl
def yA:TC:=
 (zS [Qt 4 1000000005,bf 5] (zQ (zS [af 10 0,uI 11 48 10 12,h_ 12 11] (zC 12 (zS [zGD 13,fZ 4 13 4 13,bf 5] .ret) .skip)) (zS [af 14 1,zIo 15 14,dG 16 15,bH 6] (zS [Qt 7 1000000008] (zS [jo 17 6 91 16 16,jX 19 7 7 0 18] (zS [jo 20 6 90 16 16,af 8 21] (zS [af 22 8,pg 23 22 1,jX 24 7 7 1 23] (zS [jo 25 6 167 16 16,uO 27 7 26 7 2 26] (zQ (.join [⟨16,[.s,.i .i64,.b],false⟩,⟨7,dx,false⟩] 1099243258496 none (zS [af 28 0,bn 29] (.block 0 (.loop [⟨16,[.s,.i .i64,.b],false⟩,⟨7,dx,false⟩,⟨29,[.i .i64],false⟩] 1098974823040 (zS [kY 30 29 28] (zQ (zC 30 .skip (.exit 0)) (zQ (.block 1 (zS [jo 31 6 90 16 16,af 9 32] (zR [uM 33 7 3,af 35 9,KQ 36 35,Mq 34 34 36 37 34 34 7 37,iX 38,F5 7 37 34 7 3 38 37]))) (zR [yT 39 29,af 29 39])))))))) (zQ (.seq (.join [⟨52,[.b],false⟩] 9006099743178752 none (zR [af 40 8,w_ 41 40 1,af 42 41,zIi 43 6 2,zIp 16 44 16 44,kM 45 44 2 42,dH 48 0 7,[o2 49 (.load 7 [] 0 .nil 4 true) 7 false],yY 71 48 49 50 50 7,uK 51 50 7 47])) (zC 52 (zS [zGD 53,fZ 4 53 4 53,bf 5] .ret) .skip)) (zS [uL 54 7 4 4 4 7,fI 5] .ret)))))))))))
def Lg:aI:=⟨[.rd false [.d],.rd false [.d]],(.tup [(true,4),(false,1)] [.d,.d,.sl (.own none) [.d,.d],.sl (.own none) [.d],.d])⟩
def yB:aJ:=aA [(48,wN),(91,lT),(90,lS),(167,um),(95,og),(71,Fh)]
def yC (n:Nat):Int × ByteArray->Option (Zt9 × Unit):=aB n yB yA [[.i .i64],[.s]] Ty9 [] [4,5] .no
def yD:=yC BIG
def Lh:TSp:=⟨Lg,[[.i .i64],[.s]],Ty9,[],Ou.j .no,yD⟩
theorem ZI:aL PG yB 92 Lg (yA.ht 55) .no=some (yA.wc yB,[4,5]):=by kernel_rfl
theorem Xw:Lh.Ok PG 92:=aM (ae tY (ae n_ (ae nZ (ae Cc (ae uo (ae N9 (ak PG))))))) ZI (by kernel_rfl)
theorem ZJ (n) (a0) (a1):yC n (a0,a1) = (jH (a0,(1:Int),(12:Int))).bind fun r0=> bif !r0.1 then some (((0:Int),false,[],[],false),()) else (df (a1,(0:Int),false)).bind fun r1=> (dE r1.2).bind fun r2=> (iN r2.2).bind fun r3=> (aO n (X:=(ByteArray × Int × Bool) × gT × Int) (B:=(ByteArray × Int × Bool) × gT) (fun self5 x4=> bif decide (x4.2.2<a0) then (dE x4.1).bind fun r6=> bif decide (x4.2.1.2.2.2.length+[r6.1].length<=4294967296) then self5 (r6.2,(x4.2.1.1,x4.2.1.2.1,x4.2.1.2.2.1,x4.2.1.2.2.2++[r6.1]),IntKind.wrap .i64 (x4.2.2+(1:Int))) else none else some (x4.1,x4.2.1)) (r3.2,(r1.1,decide (r2.1=(1:Int)),r3.1,[]),(0:Int)):Option ((ByteArray × Int × Bool) × gT)).bind fun x7=> (bif decide ((1:Int)<r2.1) then some true else (gP x7.1).bind fun r8=> bif !r8.1 then some true else (pI (a0,x7.2)).bind fun r9=> some !r9.1:Option (Bool)).bind fun x10=> bif x10 then some (((0:Int),false,[],[],false),()) else some ((x7.2.1,x7.2.2.1,x7.2.2.2.1,x7.2.2.2.2,true),()):=by kernel_rfl
def Ce:TC:=
 (zS [Ql 4 1000000005,bf 5] (zS [af 8 1,zIo 9 8,dG 10 9,bH 6] (zS [Ql 7 1000000008] (zS [jo 11 6 91 10 10,jX 13 7 7 0 12] (zS [jo 14 6 90 10 10,jX 16 7 7 1 15] (zS [jo 17 6 91 10 10,jX 19 7 7 3 18] (zS [jo 20 6 167 10 10,uO 22 7 21 7 2 21] (zQ (.seq (.join [⟨31,[.b],false⟩] 4286579712 none (zR [jo 23 6 95 10 10,oF 25 24,dH 27 0 3,[o2 28 (.load 7 [] 0 .nil 4 true) 3 false],yY 64 27 28 29 29 3,uK 30 29 3 26])) (zC 31 (zS [zIq 32,fZ 4 32 4 32,bf 5] .ret) .skip)) (zS [uL 33 7 4 4 4 7,fI 5] .ret)))))))))
def Oh:aI:=⟨[.rd false [.d],.rd false [.d]],(.tup [(true,4),(false,1)] [.d,.d,.sl (.own none) [.d,.d],.d,.d])⟩
def Cf:aJ:=aA [(91,lT),(90,lS),(167,um),(95,og),(64,JJ)]
def Cg (n:Nat):Int × ByteArray->Option (aqc × Unit):=aB n Cf Ce [[.i .i64],[.s]] agM [] [4,5] .no
def Ch:=Cg BIG
def Oi:TSp:=⟨Oh,[[.i .i64],[.s]],agM,[],Ou.j .no,Ch⟩
theorem ack:aL PG Cf 94 Oh (Ce.ht 34) .no=some (Ce.wc Cf,[4,5]):=by kernel_rfl
theorem ZK:Oi.Ok PG 94:=aM (ae n_ (ae nZ (ae Cc (ae uo (ae Ra (ak PG)))))) ack (by kernel_rfl)
theorem acl (n) (a0) (a1):Cg n (a0,a1) = (df (a1,(0:Int),false)).bind fun r0=> (dE r0.2).bind fun r1=> (df r1.2).bind fun r2=> (iN r2.2).bind fun r3=> ((gP r3.2).bind fun r4=> bif !r4.1 then some true else (uf (a0,(r0.1,r1.1,r3.1,r2.1))).bind fun r5=> some !r5.1:Option (Bool)).bind fun x6=> bif x6 then some (((0:Int),(0:Int),[],(0:Int),false),()) else some ((r0.1,r1.1,r3.1,r2.1,true),()):=by kernel_rfl
def JS:TC:=
 (zS [F7 4 1000000005,bf 5] (zS [af 11 1,zIo 12 11,dG 13 12,bH 6] (zS [F7 7 1000000008] (zS [jo 14 6 90 13 13,jX 16 7 7 0 15] (zS [fI 8] (zQ (.join [⟨13,[.s,.i .i64,.b],false⟩,⟨7,oC,false⟩,⟨8,[.b],false⟩] 1152921504606724480 none (zS [bP 17 7 0] (.block 0 (zS [C_ 20 18 1] (zC 19 (zS [jo 21 6 91 13 13,yZ 23,yV 7 7 1 24 22] (zS [jo 25 6 91 13 13,yZ 27,yV 7 7 2 28 26] (zS [jo 29 6 91 13 13,yZ 31,yV 7 7 3 32 30] (zR [jo 33 6 91 13 13,yZ 35,yV 7 7 4 36 34])))) (zS [jq 38 18 2 37] (zC 37 (zS [jo 39 6 91 13 13,jX 41 7 7 5 40] (zR [af 43 0,jo 44 6 93 13 13,KW 46 92 43 45 42 4,gW 48 42 4,uO 49 7 47 7 6 47,af 8 48])) (zS [jq 51 18 3 50] (zC 50 (zR [af 53 0,jo 54 6 93 13 13,KW 56 94 53 55 52 4,gW 58 52 4,uO 59 7 57 7 10 57,af 8 58]) .skip))))))))) (zQ (zS [Gb 61 0 7 14,KX 63 23 61 62 60 0 1 9] (zQ (.join [⟨81,[.b],false⟩] 4835629491482221860626432 none (zR [af 66 8,oF 67 66,zIi 69 6 2,zIp 13 70 13 70,kM 71 70 2 68,dH 74 10 7,kM 75 74 7 73,dH 78 9 11,dH 79 1 11,F9 80 78 79 11 77])) (zC 81 (zS [[o1 82 (.build oC [])],fZ 4 82 4 82,bf 5] .ret) .skip))) (zS [mH 83 7 14,zIr 83 83 83 83 62,fI 5] .ret))))))))
def Vu:aI:=⟨[.rd false [.d],.rd false [.d]],(.tup [(true,14),(false,1)] [.d,.d,.d,.d,.d,.d,.d,.d,.sl (.own none) [.d,.d],.sl (.own none) [.d],.d,.d,.sl (.own none) [.d,.d],.d,.d])⟩
def JU:aJ:=aA [(90,lS),(91,lT),(93,Dw),(92,Lh),(94,Oi),(23,JN),(95,og)]
def JV (n:Nat):Int × ByteArray->Option (Zt3 × Unit):=aB n JU JS [[.i .i64],[.s]] Ty4 [] [4,5] .no
def zJ:=JV BIG
def Vv:TSp:=⟨Vu,[[.i .i64],[.s]],Ty4,[],Ou.j .no,zJ⟩
theorem ahX:aL PG JU 24 Vu (JS.ht 84) .no=some (JS.wc JU,[4,5]):=by kernel_rfl
theorem ad8:Vv.Ok PG 24:=aM (ae nZ (ae n_ (ae SF (ae Xw (ae ZK (ae Rb (ae uo (ak PG)))))))) ahX (by kernel_rfl)
theorem ahY (n) (a0) (a1):JV n (a0,a1) = (dE (a1,(0:Int),false)).bind fun r0=> (bif decide (r0.1=(1:Int)) then (df r0.2).bind fun r1=> (df r1.2).bind fun r2=> (df r2.2).bind fun r3=> (df r3.2).bind fun r4=> some (r4.2,(r0.1,r1.1,r2.1,r3.1,r4.1,(0:Int),(0:Int),false,[],[],(0:Int),(0:Int),[],(0:Int)),true) else bif decide (r0.1=(2:Int)) then (df r0.2).bind fun r5=> (mR r5.2).bind fun r6=> (yD (a0,r6.1)).bind fun r7=> some (r6.2,(r0.1,(0:Int),(0:Int),(0:Int),(0:Int),r5.1,r7.1.1,r7.1.2.1,r7.1.2.2.1,r7.1.2.2.2.1,(0:Int),(0:Int),[],(0:Int)),r7.1.2.2.2.2) else bif decide (r0.1=(3:Int)) then (mR r0.2).bind fun r8=> (Ch (a0,r8.1)).bind fun r9=> some (r8.2,(r0.1,(0:Int),(0:Int),(0:Int),(0:Int),(0:Int),(0:Int),false,[],[],r9.1.1,r9.1.2.1,r9.1.2.2.1,r9.1.2.2.2.1),r9.1.2.2.2.2) else some (r0.2,(r0.1,(0:Int),(0:Int),(0:Int),(0:Int),(0:Int),(0:Int),false,[],[],(0:Int),(0:Int),[],(0:Int)),true):Option ((ByteArray × Int × Bool) × YA × Bool)).bind fun x10=> (nY (a0,x10.2.1)).bind fun r11=> (bif !x10.2.2 then some true else (gP x10.1).bind fun r12=> bif !r12.1 then some true else bif !r11.1.2 then some true else some (!(r11.1.1.toList == a1.toList)):Option (Bool)).bind fun x13=> bif x13 then some (((0:Int),(0:Int),(0:Int),(0:Int),(0:Int),(0:Int),(0:Int),false,[],[],(0:Int),(0:Int),[],(0:Int),false),()) else some ((x10.2.1.1,x10.2.1.2.1,x10.2.1.2.2.1,x10.2.1.2.2.2.1,x10.2.1.2.2.2.2.1,x10.2.1.2.2.2.2.2.1,x10.2.1.2.2.2.2.2.2.1,x10.2.1.2.2.2.2.2.2.2.1,x10.2.1.2.2.2.2.2.2.2.2.1,x10.2.1.2.2.2.2.2.2.2.2.2.1,x10.2.1.2.2.2.2.2.2.2.2.2.2.1,x10.2.1.2.2.2.2.2.2.2.2.2.2.2.1,x10.2.1.2.2.2.2.2.2.2.2.2.2.2.2.1,x10.2.1.2.2.2.2.2.2.2.2.2.2.2.2.2,true),()):=by kernel_rfl
def qz:TC:=
 (zS [kN 1 0] (zS [dY 3 1 4,zIq 4,kZ 5 170 3 4,af 2 5] .ret))
def Ci:aI:=⟨[.rd true Aw],(.one false [.d])⟩
def qA:aJ:=aA [(170,sQ)]
def qB (n:Nat):kP->Option ((Bool) × Unit):=aB n qA qz [dP] [.b] [] [2] .no
def lH:=qB BIG
def Cj:TSp:=⟨Ci,[dP],[.b],[],Ou.j .no,lH⟩
theorem SG:aL PG qA 97 Ci (qz.ht 6) .no=some (qz.wc qA,[2]):=by kernel_rfl
theorem Qc:Cj.Ok PG 97:=aM (ae A_ (ak PG)) SG (by kernel_rfl)
theorem SH (n) (a0):qB n a0 = (iM (a0,((0:Int),(0:Int),[],(0:Int)))).bind fun r0=> some (r0.1,()):=by kernel_rfl
def Oj:TC:=
 (zS [[o1 2 (.lit [.s] [.string ⟨#[]⟩])]] (zS [[o1 4 (.sli [.i .u8] [])],bK 4 3 4] (zQ (.join [⟨3,[.sl [.i .u8]],false⟩,⟨0,[.i .i64],false⟩] 65513 none (.block 0 (.loop [⟨3,[.sl [.i .u8]],false⟩,⟨0,[.i .i64],false⟩] 65513 (zQ (zS [af 5 0,w_ 6 5 127] (zC 6 .skip (.exit 0))) (.block 1 (zS [bK 3 7 3,af 8 0,zIa 9 8,zAq 10 9 128,Mt 11 10,Ul 12 11,KV 7 12 13 7 3] (zR [af 14 0,zDc 15 14 128,af 0 15]))))))) (zS [bK 3 16 3,af 17 0,Mt 18 17,Ul 19 18,xf 16 19 20 16,Yy 21 20,af 2 21] .ret))))
def Y0:aI:=⟨[.rd false [.d]],(.one false [.d])⟩
def Ol:aJ:=aA []
def Om (n:Nat):Int->Option ((ByteArray) × Unit):=aB n Ol Oj [[.i .i64]] [.s] [] [2] .no
def f_:=Om BIG
def qZ:TSp:=⟨Y0,[[.i .i64]],[.s],[],Ou.j .no,f_⟩
theorem akn:aL PG Ol 98 Y0 (Oj.ht 22) .no=some (Oj.wc Ol,[2]):=by kernel_rfl
theorem uq:qZ.Ok PG 98:=aM (ak PG) akn (by kernel_rfl)
theorem ako (n) (a0):Om n a0 = (aO n (X:=(List Int) × Int) (B:=(List Int) × Int) (fun self1 x0=> bif decide ((127:Int)<x0.2) then bif decide ((128:Int)=0) then none else bif decide (x0.1.length+([IntKind.wrap .u8 (IntKind.wrap .i64 ((Int.tmod x0.2 (128:Int))+(128:Int)))]).length<=4294967296) then bif decide ((128:Int)=0) then none else self1 (x0.1++([IntKind.wrap .u8 (IntKind.wrap .i64 ((Int.tmod x0.2 (128:Int))+(128:Int)))]),IntKind.wrap .i64 (Int.tdiv x0.2 (128:Int))) else none else some (x0.1,x0.2)) ([],a0):Option ((List Int) × Int)).bind fun x2=> bif decide (x2.1.length+([IntKind.wrap .u8 (x2.2)]).length<=4294967296) then some (dw (x2.1++([IntKind.wrap .u8 (x2.2)])),()) else none:=by kernel_rfl
def JW:TC:=
 (zS [[o1 2 (.lit [.s] [.string ⟨#[]⟩])]] (zQ (zS [af 3 0] (zC 3 (zS [[o1 2 (.lit [.s] [.string ⟨#[1]⟩])]] .ret) .skip)) (zS [[o1 2 (.lit [.s] [.string ⟨#[0]⟩])]] .ret)))
def Vw:aI:=⟨[.rd false [.d]],(.one false [.d])⟩
def JX:aJ:=aA []
def JY (n:Nat):Bool->Option ((ByteArray) × Unit):=aB n JX JW [[.b]] [.s] [] [2] .no
def JZ:=JY BIG
def Vx:TSp:=⟨Vw,[[.b]],[.s],[],Ou.j .no,JZ⟩
theorem ahZ:aL PG JX 171 Vw (JW.ht 4) .no=some (JW.wc JX,[2]):=by kernel_rfl
theorem ad9:Vx.Ok PG 171:=aM (ak PG) ahZ (by kernel_rfl)
theorem ah0 (n) (a0):JY n a0 = bif a0 then some ((ByteArray.mk #[1]),()) else some ((ByteArray.mk #[0]),()):=by kernel_rfl
def J2:TC:=
 (zS [[o1 2 (.lit [.s] [.string ⟨#[]⟩])]] (zS [af 3 0,Mt 4 3,Ul 5 4,Yy 6 5,af 2 6] .ret))
def Vy:aI:=⟨[.rd false [.d]],(.one false [.d])⟩
def J3:aJ:=aA []
def J4 (n:Nat):Int->Option ((ByteArray) × Unit):=aB n J3 J2 [[.i .i64]] [.s] [] [2] .no
def oh:=J4 BIG
def zK:TSp:=⟨Vy,[[.i .i64]],[.s],[],Ou.j .no,oh⟩
theorem ah1:aL PG J3 173 Vy (J2.ht 7) .no=some (J2.wc J3,[2]):=by kernel_rfl
theorem Fj:zK.Ok PG 173:=aM (ak PG) ah1 (by kernel_rfl)
theorem ah2 (n) (a0):J4 n a0 = some (dw ([IntKind.wrap .u8 (a0)]),()):=by kernel_rfl
def Fp:TC:=
 (zS [[o1 2 (.lit [.s] [.string ⟨#[]⟩])]] (zS [xh 5 0 5,ib 7 98 6,af 3 7] (zQ (.join [⟨3,[.s],false⟩] 536870680 none (zS [bn 4] (.block 0 (.loop [⟨3,[.s],false⟩,⟨4,[.i .i64],false⟩] 536870680 (zQ (zS [bM 8 4 0,rY 10 9 8] (zC 11 .skip (.exit 0))) (zQ (.block 1 (zR [bM 14 3 0,af 16 4,bM 22 0 4,Un 17 15 16 2,ib 20 173 19,o_ 21 14 20,zKB 24 22 23 2 1,ib 27 173 26,rZ 28 21 27 3])) (zR [eu 12 4 4]))))))) (zS [AL 29 3 2] .ret))))
def Rf:aI:=⟨[.rd false ny],(.one false [.d])⟩
def Fq:aJ:=aA [(98,qZ),(173,zK)]
def Fu (n:Nat):(List aV)->Option ((ByteArray) × Unit):=aB n Fq Fp [[.sl [.i .i64,.i .i64]]] [.s] [] [2] .no
def wO:=Fu BIG
def Fv:TSp:=⟨Rf,[[.sl [.i .i64,.i .i64]]],[.s],[],Ou.j .no,wO⟩
theorem ad_:aL PG Fq 172 Rf (Fp.ht 30) .no=some (Fp.wc Fq,[2]):=by kernel_rfl
theorem Oo:Fv.Ok PG 172:=aM (ae uq (ae Fj (ak PG))) ad_ (by kernel_rfl)
theorem aea (n) (a0):Fu n a0 = (f_ (a0.length:Int)).bind fun r0=> (aO n (X:=ByteArray × Int) (B:=ByteArray) (fun self2 x1=> bif decide (x1.2<(a0.length:Int)) then bnd a0.length x1.2 fun n3=> a0[n3]?.bind fun y4=> (oh y4.1).bind fun r5=> bif decide (x1.1.size+r5.1.size<=4611686018427387904) then bnd a0.length x1.2 fun n6=> a0[n6]?.bind fun y7=> (oh y7.2).bind fun r8=> bif decide ((x1.1++r5.1).size+r8.1.size<=4611686018427387904) then self2 ((x1.1++r5.1)++r8.1,IntKind.wrap .i64 (x1.2+(1:Int))) else none else none else some x1.1) (r0.1,(0:Int)):Option (ByteArray)).bind fun x9=> some (x9,()):=by kernel_rfl
def yE:TC:=
 (zS [dG 3 1,[o1 4 (.lit [.s] [.string ⟨#[]⟩])],bf 5] (zQ (zS [af 8 0,dY 9 3 4,kZ 10 80 8 9,h_ 11 10] (zC 11 (zS [[o1 4 (.lit [.s] [.string ⟨#[]⟩])],bf 5] .ret) .skip)) (zS [uN 12 3 0 98,uN 15 3 1 171,o_ 18 14 17,uN 19 3 2 172,rZ 22 18 21 6] (zQ (.join [⟨6,[.s],false⟩] 68711088320 none (zS [bn 7] (.block 0 (.loop [⟨6,[.s],false⟩,⟨7,[.i .i64],false⟩] 68711088320 (zQ (zS [C9 23 7 0] (zC 25 .skip (.exit 0))) (zQ (.block 1 (zR [QA 28 6 3 3,af 31 7,mJ 32 30 31 1,ib 34 173 33,rZ 35 28 34 6])) (zR [eu 26 7 7]))))))) (zS [AL 36 6 4,fI 5] .ret)))))
def Li:aI:=⟨[.rd false [.d],.rd true Av],(.tup [(false,1),(false,1)] [.d,.d])⟩
def yF:aJ:=aA [(80,wK),(98,qZ),(171,Vx),(172,Fv),(173,zK)]
def yG (n:Nat):Int × gT->Option ((ByteArray × Bool) × Unit):=aB n yF yE [[.i .i64],dx] [.s,.b] [] [4,5] .no
def lU:=yG BIG
def yH:TSp:=⟨Li,[[.i .i64],dx],[.s,.b],[],Ou.j .no,lU⟩
theorem ZL:aL PG yF 99 Li (yE.ht 37) .no=some (yE.wc yF,[4,5]):=by kernel_rfl
theorem Gs:yH.Ok PG 99:=aM (ae Bn (ae uq (ae ad9 (ae Oo (ae Fj (ak PG)))))) ZL (by kernel_rfl)
theorem ZM (n) (a0) (a1):yG n (a0,a1) = (pG (a0,a1)).bind fun r0=> bif !r0.1 then some (((ByteArray.mk #[]),false),()) else (f_ a1.1).bind fun r1=> (JZ a1.2.1).bind fun r2=> bif decide (r1.1.size+r2.1.size<=4611686018427387904) then (wO a1.2.2.1).bind fun r3=> bif decide ((r1.1++r2.1).size+r3.1.size<=4611686018427387904) then (aO n (X:=ByteArray × Int) (B:=ByteArray) (fun self5 x4=> bif decide (x4.2<a0) then bnd a1.2.2.2.length x4.2 fun n6=> a1.2.2.2[n6]?.bind fun y7=> (oh y7).bind fun r8=> bif decide (x4.1.size+r8.1.size<=4611686018427387904) then self5 (x4.1++r8.1,IntKind.wrap .i64 (x4.2+(1:Int))) else none else some x4.1) ((r1.1++r2.1)++r3.1,(0:Int)):Option (ByteArray)).bind fun x9=> some ((x9,true),()) else none else none:=by kernel_rfl
def vW:TC:=
 (zS [kN 1 0] (zS [dY 3 1 4,[o1 4 (.build gy [])],zEi 5 3 4,af 2 5] .ret))
def Gt:aI:=⟨[.rd true [.d,.d,.d,.d]],(.one false [.d])⟩
def vX:aJ:=aA []
def vY (n:Nat):r_->Option ((Bool) × Unit):=aB n vX vW [gy] [.b] [] [2] .no
def ol:=vY BIG
def Gu:TSp:=⟨Gt,[gy],[.b],[],Ou.j .no,ol⟩
theorem Xx:aL PG vX 100 Gt (vW.ht 6) .no=some (vW.wc vX,[2]):=by kernel_rfl
theorem Vz:Gu.Ok PG 100:=aM (ak PG) Xx (by kernel_rfl)
theorem Xy (n) (a0):vY n a0 = some ((decide (a0.1=(0:Int))&&(decide (a0.2.1=(0:Int))&&(decide (a0.2.2.1=(0:Int))&&(decide (a0.2.2.2=(0:Int))&&true)))),()):=by kernel_rfl
def Ck:TC:=
 (zS [dG 3 1,[o1 4 (.lit [.s] [.string ⟨#[]⟩])],bf 5] (zQ (zS [af 6 0,dY 7 3 4,kZ 8 119 6 7,h_ 9 8] (zC 9 (zS [[o1 4 (.lit [.s] [.string ⟨#[]⟩])],bf 5] .ret) .skip)) (zS [uN 10 3 0 98,uN 13 3 1 173,o_ 16 12 15,uN 17 3 3 98,o_ 20 16 19,uN 21 3 2 172,rZ 24 20 23 4,fI 5] .ret)))
def Oq:aI:=⟨[.rd false [.d],.rd true Aw],(.tup [(false,1),(false,1)] [.d,.d])⟩
def Cm:aJ:=aA [(119,zw),(98,qZ),(173,zK),(172,Fv)]
def Cn (n:Nat):Int × kP->Option ((ByteArray × Bool) × Unit):=aB n Cm Ck [[.i .i64],dP] [.s,.b] [] [4,5] .no
def nH:=Cn BIG
def Co:TSp:=⟨Oq,[[.i .i64],dP],[.s,.b],[],Ou.j .no,nH⟩
theorem acm:aL PG Cm 101 Oq (Ck.ht 25) .no=some (Ck.wc Cm,[4,5]):=by kernel_rfl
theorem Lj:Co.Ok PG 101:=aM (ae Em (ae uq (ae Fj (ae Oo (ak PG))))) acm (by kernel_rfl)
theorem acn (n) (a0) (a1):Cn n (a0,a1) = (tq (a0,a1)).bind fun r0=> bif !r0.1 then some (((ByteArray.mk #[]),false),()) else (f_ a1.1).bind fun r1=> (oh a1.2.1).bind fun r2=> bif decide (r1.1.size+r2.1.size<=4611686018427387904) then (f_ a1.2.2.2).bind fun r3=> bif decide ((r1.1++r2.1).size+r3.1.size<=4611686018427387904) then (wO a1.2.2.1).bind fun r4=> bif decide (((r1.1++r2.1)++r3.1).size+r4.1.size<=4611686018427387904) then some ((((r1.1++r2.1)++r3.1)++r4.1,true),()) else none else none else none:=by kernel_rfl
def J5:TC:=
 (zS [dG 3 1,[o1 4 (.lit [.s] [.string ⟨#[]⟩])],bf 5] (zQ (zS [bP 11 3 0] (.block 0 (zS [C_ 14 12 1] (zC 13 (zS [K3 15 3 1 4,zDg 6 1000000007,gN 6 6 16] (zQ (.seq (.join [⟨55,[.b],false⟩] 72057594037796864 none (zR [bP 17 3 5,zDe 19 18 0,af 20 19,rX 21 3,Qs 22 3 6 21 4 3,Ms 96 22 23 23 3,kM 24 23 3 20,rX 27 9,Qs 28 3 10 27 4 9,Ms 97 28 29 29 9,kM 30 29 9 26,pu 33 15 6 0,CY 42 34 0 100000 35 35 15,kM 36 35 15 32,pu 39 21 6 1,CY 42 40 0 100000 41 41 21,kM 42 41 21 38,pu 45 27 6 2,CY 42 46 0 100000 47 47 27,kM 48 47 27 44,pu 51 33 6 3,CY 42 52 0 100000 53 53 33,uK 54 53 33 50])) (zC 55 (zS [[o1 4 (.lit [.s] [.string ⟨#[]⟩])],bf 5] .ret) .skip)) (zS [uN 56 6 0 98,[o1 59 (.data (.bin .add) [.c (.string ⟨#[1]⟩),.t 58])],uN 60 6 1 98,o_ 63 59 62,uN 64 6 2 98,o_ 67 63 66,uN 68 6 3 98,rZ 71 67 70 4,fI 5] .ret))) (zS [jq 73 12 2 72] (zC 72 (zS [af 75 0,K3 76 3 6 4,KX 78 99 75 77 74 0 1 7] (zQ (.seq (.join [⟨100,[.b],false⟩] 2535298782604819573735056998400 none (zR [af 81 8,oF 82 81,rX 84 2,Qs 85 3 1 84 4 2,Ms 100 85 86 86 2,kM 87 86 2 83,rX 90 8,Qs 91 3 10 90 4 8,Ms 97 91 92 92 8,kM 93 92 8 89,pu 96 14 3 5,CY 42 97 0 100000 98 98 14,uK 99 98 14 95])) (zC 100 (zS [[o1 4 (.lit [.s] [.string ⟨#[]⟩])],bf 5] .ret) .skip)) (zS [uN 101 3 5 98,[o1 104 (.data (.bin .add) [.c (.string ⟨#[2]⟩),.t 103])],af 105 7,Mv 106 105,ib 107 98 106,o_ 108 104 107,af 109 7,rZ 110 108 109 4,fI 5] .ret))) (zS [jq 112 12 3 111] (zC 111 (zS [af 114 0,K3 115 3 10 4,KX 117 101 114 116 113 0 1 9] (zQ (.seq (.join [⟨138,[.b],false⟩] 696896958226086188257118292213201016717312 none (zR [af 120 10,oF 121 120,rX 123 2,Qs 124 3 1 123 4 2,Ms 100 124 125 125 2,kM 126 125 2 122,rX 129 8,Qs 130 3 6 129 4 8,Ms 96 130 131 131 8,kM 132 131 8 128,pu 135 14 3 5,zIf 137 136 14,uJ 134 137 138])) (zC 138 (zS [[o1 4 (.lit [.s] [.string ⟨#[]⟩])],bf 5] .ret) .skip)) (zS [af 139 9,Mv 140 139,ib 141 98 140,[o1 142 (.data (.bin .add) [.c (.string ⟨#[3]⟩),.t 141])],af 143 9,rZ 144 142 143 4,fI 5] .ret))) .skip)))))))) (zS [[o1 4 (.lit [.s] [.string ⟨#[]⟩])],bf 5] .ret)))
def VA:aI:=⟨[.rd false [.d],.rd true Ct2],(.tup [(false,1),(false,1)] [.d,.d])⟩
def J6:aJ:=aA [(96,EF),(97,Cj),(42,dz),(98,qZ),(99,yH),(100,Gu),(101,Co)]
def J7 (n:Nat):Int × YA->Option ((ByteArray × Bool) × Unit):=aB n J6 J5 [[.i .i64],oC] [.s,.b] [] [4,5] .no
def om:=J7 BIG
def zM:TSp:=⟨VA,[[.i .i64],oC],[.s,.b],[],Ou.j .no,om⟩
theorem ah3:aL PG J6 25 VA (J5.ht 145) .no=some (J5.wc J6,[4,5]):=by kernel_rfl
theorem Fx:zM.Ok PG 25:=aM (ae Nu (ae Qc (ae cB (ae uq (ae Gs (ae Vz (ae Lj (ak PG)))))))) ah3 (by kernel_rfl)
theorem ah4 (n) (a0) (a1):J7 n (a0,a1) = bif decide (a1.1=(1:Int)) then (bif !decide (a1.2.2.2.2.2.1=(0:Int)) then some true else (pF (a1.2.2.2.2.2.2.1,a1.2.2.2.2.2.2.2.1,a1.2.2.2.2.2.2.2.2.1,a1.2.2.2.2.2.2.2.2.2.1)).bind fun r0=> bif !r0.1 then some true else (lH a1.2.2.2.2.2.2.2.2.2.2).bind fun r1=> bif !r1.1 then some true else (a_ (a1.2.1,(0:Int),(100000:Int))).bind fun r2=> bif !r2.1 then some true else (a_ (a1.2.2.1,(0:Int),(100000:Int))).bind fun r3=> bif !r3.1 then some true else (a_ (a1.2.2.2.1,(0:Int),(100000:Int))).bind fun r4=> bif !r4.1 then some true else (a_ (a1.2.2.2.2.1,(0:Int),(100000:Int))).bind fun r5=> some !r5.1:Option (Bool)).bind fun x6=> bif x6 then some (((ByteArray.mk #[]),false),()) else (f_ a1.2.1).bind fun r7=> bif decide ((ByteArray.mk #[1]).size+r7.1.size<=4611686018427387904) then (f_ a1.2.2.1).bind fun r8=> bif decide (((ByteArray.mk #[1])++r7.1).size+r8.1.size<=4611686018427387904) then (f_ a1.2.2.2.1).bind fun r9=> bif decide ((((ByteArray.mk #[1])++r7.1)++r8.1).size+r9.1.size<=4611686018427387904) then (f_ a1.2.2.2.2.1).bind fun r10=> bif decide (((((ByteArray.mk #[1])++r7.1)++r8.1)++r9.1).size+r10.1.size<=4611686018427387904) then some ((((((ByteArray.mk #[1])++r7.1)++r8.1)++r9.1)++r10.1,true),()) else none else none else none else none else bif decide (a1.1=(2:Int)) then (lU (a0,(a1.2.2.2.2.2.2.1,a1.2.2.2.2.2.2.2.1,a1.2.2.2.2.2.2.2.2.1,a1.2.2.2.2.2.2.2.2.2.1))).bind fun r11=> (bif !r11.1.2 then some true else (ol (a1.2.1,a1.2.2.1,a1.2.2.2.1,a1.2.2.2.2.1)).bind fun r12=> bif !r12.1 then some true else (lH a1.2.2.2.2.2.2.2.2.2.2).bind fun r13=> bif !r13.1 then some true else (a_ (a1.2.2.2.2.2.1,(0:Int),(100000:Int))).bind fun r14=> some !r14.1:Option (Bool)).bind fun x15=> bif x15 then some (((ByteArray.mk #[]),false),()) else (f_ a1.2.2.2.2.2.1).bind fun r16=> bif decide ((ByteArray.mk #[2]).size+r16.1.size<=4611686018427387904) then (f_ (r11.1.1.size:Int)).bind fun r17=> bif decide (((ByteArray.mk #[2])++r16.1).size+r17.1.size<=4611686018427387904) then bif decide ((((ByteArray.mk #[2])++r16.1)++r17.1).size+r11.1.1.size<=4611686018427387904) then some (((((ByteArray.mk #[2])++r16.1)++r17.1)++r11.1.1,true),()) else none else none else none else bif decide (a1.1=(3:Int)) then (nH (a0,a1.2.2.2.2.2.2.2.2.2.2)).bind fun r18=> (bif !r18.1.2 then some true else (ol (a1.2.1,a1.2.2.1,a1.2.2.2.1,a1.2.2.2.2.1)).bind fun r19=> bif !r19.1 then some true else (pF (a1.2.2.2.2.2.2.1,a1.2.2.2.2.2.2.2.1,a1.2.2.2.2.2.2.2.2.1,a1.2.2.2.2.2.2.2.2.2.1)).bind fun r20=> bif !r20.1 then some true else some (!decide (a1.2.2.2.2.2.1=(0:Int))):Option (Bool)).bind fun x21=> bif x21 then some (((ByteArray.mk #[]),false),()) else (f_ (r18.1.1.size:Int)).bind fun r22=> bif decide ((ByteArray.mk #[3]).size+r22.1.size<=4611686018427387904) then bif decide (((ByteArray.mk #[3])++r22.1).size+r18.1.1.size<=4611686018427387904) then some ((((ByteArray.mk #[3])++r22.1)++r18.1.1,true),()) else none else none else some (((ByteArray.mk #[]),false),()):=by kernel_rfl
def Cq:TC:=
 (zS [bf 4] (zQ (zS [xh 6 0 6,xh 8 1 8,Qo 10 7 9] (zC 10 (zS [bf 4] .ret) .skip)) (zQ (.join [] 67106864 (some [⟨4,[.b],false⟩]) (zS [bn 5] (.block 0 (.loop [⟨5,[.i .i64],false⟩] 67106864 (zQ (zS [F8 11 5 0] (zC 14 .skip (.exit 0))) (zQ (.block 1 (zS [bM 17 0 5,bM 21 1 5,Qu 19 17 18 2 2,Qu 23 21 22 2 2,zEg 25 20 24] (zC 25 (zS [bf 4] .ret) .skip))) (zR [eu 15 5 5]))))))) (zS [fI 4] .ret))))
def Ot:aI:=⟨[.rd false ny,.rd false ny],(.one false [.d])⟩
def Cr:aJ:=aA []
def Cs (n:Nat):(List aV) × (List aV)->Option ((Bool) × Unit):=aB n Cr Cq [[.sl [.i .i64,.i .i64]],[.sl [.i .i64,.i .i64]]] [.b] [] [4] .no
def nI:=Cs BIG
def Ct:TSp:=⟨Ot,[[.sl [.i .i64,.i .i64]],[.sl [.i .i64,.i .i64]]],[.b],[],Ou.j .no,nI⟩
theorem aco:aL PG Cr 20 Ot (Cq.ht 26) .no=some (Cq.wc Cr,[4]):=by kernel_rfl
theorem Ll:Ct.Ok PG 20:=aM (ak PG) aco (by kernel_rfl)
theorem acp (n) (a0) (a1):Cs n (a0,a1) = bif !decide ((a0.length:Int)=(a1.length:Int)) then some (false,()) else (aO n (X:=Int) (B:=(Unit) ⊕ (Bool)) (fun self1 x0=> bif decide (x0<(a0.length:Int)) then bnd a0.length x0 fun n2=> a0[n2]?.bind fun y3=> bnd a1.length x0 fun n4=> a1[n4]?.bind fun y5=> bif !(decide (y3.1=y5.1)&&(decide (y3.2=y5.2)&&true)) then some (Sum.inr false) else self1 (IntKind.wrap .i64 (x0+(1:Int))) else some (Sum.inl ())) (0:Int):Option ((Unit) ⊕ (Bool))).bind fun y=>match y with | .inl x6=> some (true,()) | .inr x6=> some (x6,()):=by kernel_rfl
def Fy:TC:=
 (zS [bf 4] (zQ (zS [xh 6 0 6,xh 8 1 8,Qo 10 7 9] (zC 10 (zS [bf 4] .ret) .skip)) (zQ (.join [] 67106864 (some [⟨4,[.b],false⟩]) (zS [bn 5] (.block 0 (.loop [⟨5,[.i .i64],false⟩] 67106864 (zQ (zS [F8 11 5 0] (zC 14 .skip (.exit 0))) (zQ (.block 1 (zS [bM 17 0 5,bM 21 1 5,mJ 19 17 18 1,mJ 23 21 22 1,Qo 25 20 24] (zC 25 (zS [bf 4] .ret) .skip))) (zR [eu 15 5 5]))))))) (zS [fI 4] .ret))))
def Rh:aI:=⟨[.rd false gK,.rd false gK],(.one false [.d])⟩
def Fz:aJ:=aA []
def FC (n:Nat):List Int × List (Int)->Option ((Bool) × Unit):=aB n Fz Fy [[.sl [.i .i64]],[.sl [.i .i64]]] [.b] [] [4] .no
def FD:=FC BIG
def Ri:TSp:=⟨Rh,[[.sl [.i .i64]],[.sl [.i .i64]]],[.b],[],Ou.j .no,FD⟩
theorem aeb:aL PG Fz 21 Rh (Fy.ht 26) .no=some (Fy.wc Fz,[4]):=by kernel_rfl
theorem acr:Ri.Ok PG 21:=aM (ak PG) aeb (by kernel_rfl)
theorem aec (n) (a0) (a1):FC n (a0,a1) = bif !decide ((a0.length:Int)=(a1.length:Int)) then some (false,()) else (aO n (X:=Int) (B:=(Unit) ⊕ (Bool)) (fun self1 x0=> bif decide (x0<(a0.length:Int)) then bnd a0.length x0 fun n2=> a0[n2]?.bind fun y3=> bnd a1.length x0 fun n4=> a1[n4]?.bind fun y5=> bif !decide (y3=y5) then some (Sum.inr false) else self1 (IntKind.wrap .i64 (x0+(1:Int))) else some (Sum.inl ())) (0:Int):Option ((Unit) ⊕ (Bool))).bind fun y=>match y with | .inl x6=> some (true,()) | .inr x6=> some (x6,()):=by kernel_rfl
def yI:TC:=
 (zS [dG 2 0,kN 3 1] (zQ (.join [⟨4,[.b],false⟩] 2147483632 none (zR [iY 5 2 0 5,iY 7 3 0 7,yX 9 6 8,AO 10 9 5 2 1 5,AA 13 5 3 1 5,zGC,ic 10 15 16,Mx 18 12 2 2 3 2,qP 20 19 21 22 22 12,ic 17 22 23,Mx 25 19 2 3 3 3,qP 21 26 28 29 29 19,mM 24 29 30 4])) .ret))
def Lm:aI:=⟨[.rd true Av,.rd true Av],(.one false [.d])⟩
def yJ:aJ:=aA [(20,Ct),(21,Ri)]
def yK (n:Nat):gT × gT->Option ((Bool) × Unit):=aB n yJ yI [dx,dx] [.b] [] [4] .no
def pW:=yK BIG
def Lp:TSp:=⟨Lm,[dx,dx],[.b],[],Ou.j .no,pW⟩
theorem ZN:aL PG yJ 26 Lm (yI.ht 31) .no=some (yI.wc yJ,[4]):=by kernel_rfl
theorem Xz:Lp.Ok PG 26:=aM (ae Ll (ae acr (ak PG))) ZN (by kernel_rfl)
theorem ZO (n) (a0) (a1):yK n (a0,a1) = (bif decide (a0.1=a1.1) then bif (a0.2.1 == a1.2.1) then (nI (a0.2.2.1,a1.2.2.1)).bind fun r0=> bif r0.1 then (FD (a0.2.2.2,a1.2.2.2)).bind fun r1=> some r1.1 else some false else some false else some false:Option (Bool)).bind fun x2=> some (x2,()):=by kernel_rfl
def J8:TC:=
 (zS [[o1 4 (.lit [.s] [.string ⟨#[]⟩])]] (zQ (.join [⟨1,[.i .i64],false⟩] 386 none (zS [af 7 1,w_ 8 7 5000] (zC 8 (zR [mI 1 5000]) .skip))) (zS [[o1 9 (.sli [.i .u8] [])],bK 9 5 9] (zQ (.join [⟨5,[.sl [.i .u8]],false⟩,⟨0,bu,false⟩] 2096225 none (zS [bn 6] (.block 0 (.loop [⟨5,[.sl [.i .u8]],false⟩,⟨0,bu,false⟩,⟨6,[.i .i64],false⟩] 2096225 (zQ (zS [C9 10 6 1] (zC 12 .skip (.exit 0))) (zQ (.block 1 (zR [bK 5 15 5,F_ 16 111 0 0,Mt 18 17,Ul 19 18,KV 15 19 20 15 5])) (zR [eu 13 6 6]))))))) (zS [bK 5 21 5,Yy 22 21,af 4 22] .ret)))))
def VB:aI:=⟨[.mp [.sl (.ro []) [.d],.d,.d],.rd false [.d]],(.one false [.d])⟩
def J9:aJ:=aA [(111,Hm)]
def J_ (n:Nat):(List Int × Int × Int) × Int->Option ((ByteArray) × List Int × Int × Int):=aB n J9 J8 [bu,[.i .i64]] [.s] bu [4] (.mp 0)
def zN:=J_ BIG
def VC:TSp:=⟨VB,[bu,[.i .i64]],[.s],bu,Ou.j (.mp 0),zN⟩
theorem ah5:aL PG J9 174 VB (J8.ht 23) (.mp 0)=some (J8.wc J9,[4]):=by kernel_rfl
theorem aed:VC.Ok PG 174:=aM (ae QG (ak PG)) ah5 (by kernel_rfl)
theorem ah6 (n) (a0) (a1):J_ n (a0,a1) = (bif decide ((5000:Int)<a1) then some (5000:Int) else some a1:Option (Int)).bind fun x0=> (aO n (X:=(List Int) × (List Int × Int × Int) × Int) (B:=(List Int) × (List Int × Int × Int)) (fun self2 x1=> bif decide (x1.2.2<x0) then (jf x1.2.1).bind fun r3=> bif decide (x1.1.length+([IntKind.wrap .u8 (r3.1)]).length<=4294967296) then self2 (x1.1++([IntKind.wrap .u8 (r3.1)]),r3.2,IntKind.wrap .i64 (x1.2.2+(1:Int))) else none else some (x1.1,x1.2.1)) ([],a0,(0:Int)):Option ((List Int) × (List Int × Int × Int))).bind fun x4=> some (dw x4.1,x4.2):=by kernel_rfl
def Cu:TC:=
 (zS [[o1 4 (.lit [.s] [.string ⟨#[]⟩])]] (zQ (.join [⟨0,bu,false⟩] 17592186044401 (some [⟨4,[.s],false⟩,⟨0,bu,false⟩]) (zS [AJ 6 112 12] (.block 0 (zS [pg 9 7 0,af 8 9] (zC 8 (zS [af 10 1,AJ 11 174 1,rZ 13 10 12 4] .ret) (zS [jq 15 7 1 14] (zC 14 (zS [af 16 1,qQ 17 1,Mv 19 18,yT 20 19,kK 112 20 21 21,[o1 22 (.data (.ssl false true) [.t 16,.t 21])],af 4 22] .ret) (zQ (.join [⟨23,[.b],false⟩] 58720256 none (zS [jq 24 7 2 23] (zC 23 .skip (zR [jq 25 7 3 23])))) (zC 23 (zS [af 26 1,Mv 27 26,w_ 28 27 0] (zC 28 (zS [qQ 29 1,Mv 31 30,kK 112 31 32 32,af 5 32] (zS [bM 33 1 5,bH 36,bM 39 1 5,[⟨false,[],[0],.det 1 (.data (.ssl false true) [.t 33,.t 34]),[35],(some 35),none⟩],zAD 174 1 37 37,o_ 38 35 37,[⟨false,[],[0],.det 1 (.data (.bin .add) [.t 40,kD 1]),[41],(some 41),none⟩,⟨false,[],[0],.det 1 (.data (.ssl true false) [.t 39,.t 41]),[42],(some 42),none⟩],rZ 43 38 42 4] .ret)) .skip)) .skip))))))))) (zS [AL 44 1 4] .ret)))
def Ov:aI:=⟨[.mp [.sl (.ro []) [.d],.d,.d],.rd false [.d]],(.one false [.d])⟩
def Cv:aJ:=aA [(112,d_),(174,VC)]
def Cw (n:Nat):(List Int × Int × Int) × ByteArray->Option ((ByteArray) × List Int × Int × Int):=aB n Cv Cu [bu,[.s]] [.s] bu [4] (.mp 0)
def Cx:=Cw BIG
def Ow:TSp:=⟨Ov,[bu,[.s]],[.s],bu,Ou.j (.mp 0),Cx⟩
theorem acs:aL PG Cv 102 Ov (Cu.ht 45) (.mp 0)=some (Cu.wc Cv,[4]):=by kernel_rfl
theorem ZP:Ow.Ok PG 102:=aM (ae dZ (ae aed (ak PG))) acs (by kernel_rfl)
theorem acu (n) (a0) (a1):Cw n (a0,a1) = ((bv (a0,(12:Int))).bind fun r0=> bif decide (r0.1=(0:Int)) then (zN (r0.2,(1:Int))).bind fun r1=> bif decide (a1.size+r1.1.size<=4611686018427387904) then some (Sum.inr (a1++r1.1,r1.2)) else none else bif decide (r0.1=(1:Int)) then (bv (r0.2,IntKind.wrap .i64 ((a1.size:Int)+(1:Int)))).bind fun r2=> bif decide (0<=r2.1/\r2.1<=a1.size) then some (Sum.inr (a1.extract 0 (Int.toNat r2.1),r2.2)) else none else (bif decide (r0.1=(2:Int)) then some true else some (decide (r0.1=(3:Int))):Option (Bool)).bind fun x3=> bif x3 then bif decide ((0:Int)<(a1.size:Int)) then (bv (r0.2,(a1.size:Int))).bind fun r4=> bif decide (0<=r4.1/\r4.1<=a1.size) then (zN (r4.2,(1:Int))).bind fun r5=> bif decide ((a1.extract 0 (Int.toNat r4.1)).size+r5.1.size<=4611686018427387904) then bif decide (0<=(IntKind.wrap .i64 (r4.1+(1:Int)))/\(IntKind.wrap .i64 (r4.1+(1:Int)))<=a1.size) then bif decide (((a1.extract 0 (Int.toNat r4.1))++r5.1).size+(a1.extract (Int.toNat (IntKind.wrap .i64 (r4.1+(1:Int)))) a1.size).size<=4611686018427387904) then some (Sum.inr (((a1.extract 0 (Int.toNat r4.1))++r5.1)++(a1.extract (Int.toNat (IntKind.wrap .i64 (r4.1+(1:Int)))) a1.size),r5.2)) else none else none else none else none else some (Sum.inl r0.2) else some (Sum.inl r0.2):Option (((List Int × Int × Int)) ⊕ (ByteArray × (List Int × Int × Int)))).bind fun y=>match y with | .inl x6=> some (a1,x6) | .inr x6=> some (x6.1,x6.2):=by kernel_rfl
def vZ:TC:=
 (zS [bn 2,[o1 3 (.lit [.s] [.string ⟨#[]⟩])]] (zS [af 9 0,ib 10 37 9,bH 4] (zS [qM 12 4,af 13 0,zGo 82 10 13 14 10 14,bK 14 11 14,gW 15 11 0,zHs 11 1 14 16 11,F7 6 1000000007,af 5 15,fZ 6 16 6 16] (zS [Gb 18 5 6 14,KX 20 25 18 19 17 0 1 7] (zS [af 23 5,qM 24 4,af 25 7,zGo 102 10 25 26 10 26,bM 2 23 26] .ret)))))
def Gv:aI:=⟨[.rd false gK],(.tup [(false,1),(false,1)] [.d,.d])⟩
def v_:aJ:=aA [(37,MG),(82,NW),(25,zM),(102,Ow)]
def wh (n:Nat):List (Int)->Option ((Int × ByteArray) × Unit):=aB n v_ vZ [[.sl [.i .u8]]] [.i .i64,.s] [] [2,3] .no
def wm:=wh BIG
def Gw:TSp:=⟨Gv,[[.sl [.i .u8]]],[.i .i64,.s],[],Ou.j .no,wm⟩
theorem XA:aL PG v_ 27 Gv (vZ.ht 27) .no=some (vZ.wc v_,[2,3]):=by kernel_rfl
theorem VD:Gw.Ok PG 27:=aM (ae Ur (ae Vf (ae Fx (ae ZP (ak PG))))) XA (by kernel_rfl)
theorem XB (n) (a0):wh n a0 = (xm a0).bind fun r0=> (Du (r0.1,a0)).bind fun r1=> (om (r1.1.1,r1.1.2)).bind fun r2=> (Cx (r1.2,r2.1.1)).bind fun r3=> some ((r1.1.1,r3.1),()):=by kernel_rfl
def Ka:TC:=
 (zS [[o1 4 (.lit [.s] [.string ⟨#[]⟩])]] (zQ (.seq (.join [⟨22,[.b],false⟩] 8388576 none (zR [bH 5,qM 6 5,yU 7 6,qN 8 0 2 7,y_ 9 8 1 4,zIh 11,zIi 12 11 4,KU 13 12 4,Az 14 0 0 13 4,zIj 15 14 4,zIh 16,zIi 17 16 4,KU 18 17 4,Az 19 0 1 18 4,[o2 20 (.data (.bin .sub) [.t 15,.t 19]) 4 false,o2 21 (.data (.bin .gtr) [.t 10,.t 20]) 4 false],uJ 9 21 22])) (zC 22 (zS [bH 23,nz 24 23,zIk 25] (zS [[o1 4 (.lit [.s] [.string ⟨#[]⟩])]] .ret)) .skip)) (zS [bH 26,bH 27,mK 28 27 0 1,af 31 1,o_ 32 30 31,nz 33 26,yV 0 0 1 34 32] (zS [bH 35,bH 39,af 43 1,bH 45,mK 36 35 0 0,mK 40 39 0 1,[o1 44 (.data (.bin .sub) [.t 42,.t 43])],mK 46 45 0 1,[o1 49 (.data (.ssl true true) [.t 38,.t 44,.t 48])],af 4 49] .ret))))
def VE:aI:=⟨[.mp [.d,.d,.d],.rd false [.d]],(.one false [.d])⟩
def Kb:aJ:=aA []
def zO (n:Nat):(ByteArray × Int × Bool) × Int->Option ((ByteArray) × ByteArray × Int × Bool):=aB n Kb Ka [[.s,.i .i64,.b],[.i .i64]] [.s] [.s,.i .i64,.b] [4] (.mp 0)
def oq:=zO BIG
def Kc:TSp:=⟨VE,[[.s,.i .i64,.b],[.i .i64]],[.s],[.s,.i .i64,.b],Ou.j (.mp 0),oq⟩
theorem ah7:aL PG Kb 106 VE (Ka.ht 50) (.mp 0)=some (Ka.wc Kb,[4]):=by kernel_rfl
theorem Rj:Kc.Ok PG 106:=aM (ak PG) ah7 (by kernel_rfl)
theorem VF (n) (a0) (a1):zO n (a0,a1) = (bif a0.2.2 then some true else some (decide ((IntKind.wrap .i64 ((a0.1.size:Int)-a0.2.1))<a1)):Option (Bool)).bind fun x0=> bif x0 then some ((ByteArray.mk #[]),(a0.1,a0.2.1,true)) else bif decide (0<=(IntKind.wrap .i64 ((IntKind.wrap .i64 (a0.2.1+a1))-a1))/\(IntKind.wrap .i64 ((IntKind.wrap .i64 (a0.2.1+a1))-a1))<=(IntKind.wrap .i64 (a0.2.1+a1))/\(IntKind.wrap .i64 (a0.2.1+a1))<=a0.1.size) then some (a0.1.extract (Int.toNat (IntKind.wrap .i64 ((IntKind.wrap .i64 (a0.2.1+a1))-a1))) (Int.toNat (IntKind.wrap .i64 (a0.2.1+a1))),(a0.1,IntKind.wrap .i64 (a0.2.1+a1),a0.2.2)) else none:=by kernel_rfl
def Ox:TC:=
 (zS [bn 2] (zS [AJ 4 106 1,af 3 5] (zQ (zS [bH 6,qM 7 6,yU 8 7,qN 9 0 2 8] (zC 9 (zS [bn 2] .ret) .skip)) (zS [af 10 3,[o1 11 (.data .sidx [.t 10,kD 0])],zAo 12 11,af 2 12] .ret))))
def Y1:aI:=⟨[.mp [.d,.d,.d]],(.one false [.d])⟩
def Oy:aJ:=aA [(106,Kc)]
def Oz (n:Nat):(ByteArray × Int × Bool)->Option ((Int) × ByteArray × Int × Bool):=aB n Oy Ox [[.s,.i .i64,.b]] [.i .i64] [.s,.i .i64,.b] [2] (.mp 0)
def gp:=Oz BIG
def xw:TSp:=⟨Y1,[[.s,.i .i64,.b]],[.i .i64],[.s,.i .i64,.b],Ou.j (.mp 0),gp⟩
theorem akp:aL PG Oy 103 Y1 (Ox.ht 13) (.mp 0)=some (Ox.wc Oy,[2]):=by kernel_rfl
theorem zP:xw.Ok PG 103:=aM (ae Rj (ak PG)) akp (by kernel_rfl)
theorem akq (n) (a0):Oz n a0 = (oq (a0,(1:Int))).bind fun r0=> bif r0.2.2.2 then some ((0:Int),r0.2) else bnd r0.1.size (0:Int) fun n1=>r0.1[n1]?.bind fun b2=> some (IntKind.wrap .i64 ((b2.toNat:Int)),r0.2):=by kernel_rfl
def Ke:TC:=
 (zS [bn 4,bn 5,bf 6] (zQ (zS [bM 10 1 0,Mv 12 11,Yx 13 42 10 12,h_ 14 13] (zC 14 (zS [bn 4,bn 5,bf 6] .ret) .skip)) (zS [bn 7] (zS [mI 8 1] (zQ (.join [] 288230376151679984 (some [⟨4,[.i .i64],false⟩,⟨5,[.i .i64],false⟩,⟨6,[.b],false⟩]) (zS [AL 15 1 9] (.block 0 (.loop [⟨7,[.i .i64],false⟩,⟨8,[.i .i64],false⟩,⟨9,[.i .i64],false⟩] 288230376151647216 (zQ (.seq (.join [⟨25,[.b],false⟩] 67043328 none (zR [bM 16 9 0,Mv 18 17,kY 19 16 18,Ga 20 19 9 4,fq 22 1 4,zEu 23 22 5 4,zDt 24 21 23 4,oZ 20 24 25])) (zC 25 .skip (.exit 0))) (zQ (.block 1 (zS [bM 28 7 0,af 30 9,zIm 31 29 30,zAo 32 31,zIa 33 32,af 34 8,[o1 35 (.data (.bin .mul) [.t 33,.t 34])],rZ 36 28 35 7] (zS [af 37 8,zAk 38 37 128,af 8 38] (zS [bM 39 0 9,zIm 41 39 40,[o1 42 (.data (.bin .lss) [.t 41,.c (.int .u8 (128))])]] (zC 42 (zQ (.seq (.join [⟨54,[.b],false⟩] 36020000925941760 none (zR [af 43 7,w_ 44 43 1000000000,y_ 45 44 7 2,Ms 98 46 47 47 2,dH 48 0 2,dH 49 1 2,dH 50 9 2,[o2 51 (.data (.bin .add) [.t 50,kD 1]) 2 false,o2 52 (.data (.ssl true true) [.t 48,.t 49,.t 51]) 2 false],F9 53 47 52 2 45])) (zC 54 (zS [bn 4,bn 5,bf 6] .ret) .skip)) (zS [bM 55 7 9,yT 57 56,af 4 55,af 5 57,fI 6] .ret)) .skip))))) (zR [eu 26 9 9]))))))) (zS [bn 4,bn 5,bf 6] .ret))))))
def VG:aI:=⟨[.rd false [.d],.rd false [.d]],(.tup [(false,1),(false,1),(false,1)] [.d,.d,.d])⟩
def Kg:aJ:=aA [(42,dz),(98,qZ)]
def Kh (n:Nat):ByteArray × Int->Option (WY × Unit):=aB n Kg Ke [[.s],[.i .i64]] [.i .i64,.i .i64,.b] [] [4,5,6] .no
def Ki:=Kh BIG
def VH:TSp:=⟨VG,[[.s],[.i .i64]],[.i .i64,.i .i64,.b],[],Ou.j .no,Ki⟩
theorem ah8:aL PG Kg 175 VG (Ke.ht 58) .no=some (Ke.wc Kg,[4,5,6]):=by kernel_rfl
theorem aee:VH.Ok PG 175:=aM (ae cB (ae uq (ak PG))) ah8 (by kernel_rfl)
theorem ah9 (n) (a0) (a1):Kh n (a0,a1) = (a_ (a1,(0:Int),(a0.size:Int))).bind fun r0=> bif !r0.1 then some (((0:Int),(0:Int),false),()) else (aO n (X:=Int × Int × Int) (B:=(Unit) ⊕ WY) (fun self2 x1=> (bif decide (x1.2.2<(a0.size:Int)) then some (decide (x1.2.2<(IntKind.wrap .i64 (a1+(5:Int))))) else some false:Option (Bool)).bind fun x3=> bif x3 then bnd a0.size x1.2.2 fun n4=>a0[n4]?.bind fun b5=> bif decide ((128:Int)=0) then none else bnd a0.size x1.2.2 fun n6=>a0[n6]?.bind fun b7=> bif decide ((b7.toNat:Int)<(128:Int)) then (bif decide ((1000000000:Int)<(IntKind.wrap .i64 (x1.1+(IntKind.wrap .i64 ((Int.tmod (IntKind.wrap .i64 ((b5.toNat:Int))) (128:Int))*x1.2.1))))) then some true else (f_ (IntKind.wrap .i64 (x1.1+(IntKind.wrap .i64 ((Int.tmod (IntKind.wrap .i64 ((b5.toNat:Int))) (128:Int))*x1.2.1))))).bind fun r8=> bif decide (0<=a1/\a1<=(IntKind.wrap .i64 (x1.2.2+(1:Int)))/\(IntKind.wrap .i64 (x1.2.2+(1:Int)))<=a0.size) then some (!(r8.1.toList == (a0.extract (Int.toNat a1) (Int.toNat (IntKind.wrap .i64 (x1.2.2+(1:Int))))).toList)) else none:Option (Bool)).bind fun x9=> bif x9 then some (Sum.inr ((0:Int),(0:Int),false)) else some (Sum.inr (IntKind.wrap .i64 (x1.1+(IntKind.wrap .i64 ((Int.tmod (IntKind.wrap .i64 ((b5.toNat:Int))) (128:Int))*x1.2.1))),IntKind.wrap .i64 (x1.2.2+(1:Int)),true)) else self2 (IntKind.wrap .i64 (x1.1+(IntKind.wrap .i64 ((Int.tmod (IntKind.wrap .i64 ((b5.toNat:Int))) (128:Int))*x1.2.1))),IntKind.wrap .i64 (x1.2.1*(128:Int)),IntKind.wrap .i64 (x1.2.2+(1:Int))) else some (Sum.inl ())) ((0:Int),(1:Int),a1):Option ((Unit) ⊕ WY)).bind fun y=>match y with | .inl x10=> some (((0:Int),(0:Int),false),()) | .inr x10=> some (x10,()):=by kernel_rfl
def OA:TC:=
 (zS [bn 2] (zS [bH 7,bH 11,qM 8 7,yU 9 8,qN 10 0 0 9,mK 12 11 0 1,Qv 15 175 10 14 6,gW 16 6 0,gW 17 6 1,gW 18 6 2,pq 3 16,af 5 18] (zQ (.seq (.join [⟨26,[.b],false⟩] 133693440 none (zR [bH 19,mK 20 19 0 2,y_ 23 22 5 4,uK 25 24 4 23])) (zC 26 (zS [bH 27,nz 28 27,zIk 29] (zS [bn 2] .ret)) .skip)) (zS [qQ 30 4,nz 32 30,yV 0 0 1 33 31] (zS [AL 34 3 2] .ret)))))
def Y2:aI:=⟨[.mp [.d,.d,.d]],(.one false [.d])⟩
def OB:aJ:=aA [(175,VH)]
def OC (n:Nat):(ByteArray × Int × Bool)->Option ((Int) × ByteArray × Int × Bool):=aB n OB OA [[.s,.i .i64,.b]] [.i .i64] [.s,.i .i64,.b] [2] (.mp 0)
def eQ:=OC BIG
def xy:TSp:=⟨Y2,[[.s,.i .i64,.b]],[.i .i64],[.s,.i .i64,.b],Ou.j (.mp 0),eQ⟩
theorem akr:aL PG OB 104 Y2 (OA.ht 35) (.mp 0)=some (OA.wc OB,[2]):=by kernel_rfl
theorem zU:xy.Ok PG 104:=aM (ae aee (ak PG)) akr (by kernel_rfl)
theorem aks (n) (a0):OC n a0 = (Ki (a0.1,a0.2.1)).bind fun r0=> (bif a0.2.2 then some true else some !r0.1.2.2:Option (Bool)).bind fun x1=> bif x1 then some ((0:Int),(a0.1,a0.2.1,true)) else some (r0.1.1,(a0.1,r0.1.2.1,a0.2.2)):=by kernel_rfl
def ut:TC:=
 (zS [zGb 2] (zS [Qk 7,bK 7 3 7] (zS [F_ 8 104 0 0,af 4 9] (zQ (.join [⟨0,[.s,.i .i64,.b],false⟩,⟨3,[.sl [.i .i64,.i .i64]],false⟩] 68719475817 none (zS [bn 5] (.block 0 (.loop [⟨0,[.s,.i .i64,.b],false⟩,⟨3,[.sl [.i .i64,.i .i64]],false⟩,⟨5,[.i .i64],false⟩] 68719475817 (zQ (.seq (.join [⟨23,[.b],false⟩] 16776192 none (zR [C9 10 5 4,Ga 13 12 5 3,zAi 15 14 100 3,ic 13 15 16,zHz 18 7,zIn 19 18 7,xg 20 19 7,lN 21 0 2 20 7,Qn 22 21 7,oZ 17 22 23])) (zC 23 .skip (.exit 0))) (zQ (.block 1 (zS [F_ 26 103 0 0,[o1 28 (.build [.i .i64,.i .i64] [(0,.t 27)])],KS 6 1000000007,gN 6 6 28] (zS [F_ 29 103 0 0,jX 31 6 6 1 30] (zR [bK 3 32 3,dY 33 6 2,QC 34 33 32 32 3])))) (zR [eu 24 5 5]))))))) (zS [AB 3 36 3 2] .ret)))))
def Dy:aI:=⟨[.mp [.d,.d,.d]],(.one false ny)⟩
def uu:aJ:=aA [(104,xy),(103,xw)]
def uw (n:Nat):(ByteArray × Int × Bool)->Option ((List aV) × ByteArray × Int × Bool):=aB n uu ut [[.s,.i .i64,.b]] [.sl [.i .i64,.i .i64]] [.s,.i .i64,.b] [2] (.mp 0)
def iO:=uw BIG
def uy:TSp:=⟨Dy,[[.s,.i .i64,.b]],[.sl [.i .i64,.i .i64]],[.s,.i .i64,.b],Ou.j (.mp 0),iO⟩
theorem VI:aL PG uu 176 Dy (ut.ht 37) (.mp 0)=some (ut.wc uu,[2]):=by kernel_rfl
theorem Cy:uy.Ok PG 176:=aM (ae zU (ae zP (ak PG))) VI (by kernel_rfl)
theorem VJ (n) (a0):uw n a0 = (eQ a0).bind fun r0=> (aO n (X:=(ByteArray × Int × Bool) × (List aV) × Int) (B:=(ByteArray × Int × Bool) × (List aV)) (fun self2 x1=> (bif decide (x1.2.2<r0.1) then bif decide (x1.2.2<(100:Int)) then some !x1.1.2.2 else some false else some false:Option (Bool)).bind fun x3=> bif x3 then (gp x1.1).bind fun r4=> (gp r4.2).bind fun r5=> bif decide (x1.2.1.length+([(r4.1,r5.1)]).length<=4294967296) then self2 (r5.2,x1.2.1++([(r4.1,r5.1)]),IntKind.wrap .i64 (x1.2.2+(1:Int))) else none else some (x1.1,x1.2.1)) (r0.2,[],(0:Int)):Option ((ByteArray × Int × Bool) × (List aV))).bind fun x6=> some (x6.2,x6.1):=by kernel_rfl
def yL:TC:=
 (zS [Qt 4 1000000005,bf 5] (zS [af 11 1,zIo 12 11,dG 13 12,bH 6] (zS [jo 14 6 104 13 13,[o1 16 (.build dx [(0,.t 15)])],Qt 7 1000000008,fZ 7 16 7 16] (zS [jo 17 6 103 13 13,pg 19 18 1,jX 20 7 7 1 19] (zS [jo 21 6 176 13 13,uO 23 7 22 7 2 22] (zQ (.join [⟨13,[.s,.i .i64,.b],false⟩,⟨7,dx,false⟩] 140737471586688 none (zS [bn 8] (.block 0 (.loop [⟨13,[.s,.i .i64,.b],false⟩,⟨7,dx,false⟩,⟨8,[.i .i64],false⟩] 140737471586688 (zQ (.seq (.join [⟨37,[.b],false⟩] 274861129728 none (zR [C9 24 8 0,Ga 27 26 8 3,zAi 29 28 12 3,ic 27 29 30,zIn 32 6 7,zIn 33 32 7,xg 34 33 7,lN 35 13 2 34 7,Qn 36 35 7,oZ 31 36 37])) (zC 37 .skip (.exit 0))) (zQ (.block 1 (zR [qM 42 6,zGi 13 40 40,zHD 13 7 3 40 41 41,zAB 103 13 43 13 43,KQ 44 43,Mq 41 41 44 45 41 41 7 45,iX 46,F5 7 45 41 7 3 46 45])) (zR [eu 38 8 8]))))))) (zS [Gb 48 0 7 4,KX 50 99 48 49 47 0 1 9] (zQ (.seq (.join [⟨65,[.b],false⟩] 73777969095583465472 none (zR [qM 53 6,mK 54 53 13 2,y_ 57 56 10 4,kM 59 58 4 57,dH 62 9 8,dH 63 1 8,F9 64 62 63 8 61])) (zC 65 (zS [zGD 66,fZ 4 66 4 66,bf 5] .ret) .skip)) (zS [mH 67 7 4,zIr 67 67 67 67 49,fI 5] .ret)))))))))
def Lr:aI:=⟨[.rd false [.d],.rd false [.d]],(.tup [(true,4),(false,1)] [.d,.d,.sl (.own none) [.d,.d],.sl (.own none) [.d],.d])⟩
def yM:aJ:=aA [(104,xy),(103,xw),(176,uy),(99,yH)]
def yN (n:Nat):Int × ByteArray->Option (Zt9 × Unit):=aB n yM yL [[.i .i64],[.s]] Ty9 [] [4,5] .no
def yO:=yN BIG
def Ls:TSp:=⟨Lr,[[.i .i64],[.s]],Ty9,[],Ou.j .no,yO⟩
theorem ZQ:aL PG yM 105 Lr (yL.ht 68) .no=some (yL.wc yM,[4,5]):=by kernel_rfl
theorem XC:Ls.Ok PG 105:=aM (ae zU (ae zP (ae Cy (ae Gs (ak PG))))) ZQ (by kernel_rfl)
theorem ZT (n) (a0) (a1):yN n (a0,a1) = (eQ (a1,(0:Int),false)).bind fun r0=> (gp r0.2).bind fun r1=> (iO r1.2).bind fun r2=> (aO n (X:=(ByteArray × Int × Bool) × gT × Int) (B:=(ByteArray × Int × Bool) × gT) (fun self4 x3=> (bif decide (x3.2.2<a0) then bif decide (x3.2.2<(12:Int)) then some !x3.1.2.2 else some false else some false:Option (Bool)).bind fun x5=> bif x5 then (gp x3.1).bind fun r6=> bif decide (x3.2.1.2.2.2.length+[r6.1].length<=4294967296) then self4 (r6.2,(x3.2.1.1,x3.2.1.2.1,x3.2.1.2.2.1,x3.2.1.2.2.2++[r6.1]),IntKind.wrap .i64 (x3.2.2+(1:Int))) else none else some (x3.1,x3.2.1)) (r2.2,(r0.1,decide (r1.1=(1:Int)),r2.1,[]),(0:Int)):Option ((ByteArray × Int × Bool) × gT)).bind fun x7=> (lU (a0,x7.2)).bind fun r8=> (bif x7.1.2.2 then some true else bif !r8.1.2 then some true else some (!(r8.1.1.toList == a1.toList)):Option (Bool)).bind fun x9=> bif x9 then some (((0:Int),false,[],[],false),()) else some ((x7.2.1,x7.2.2.1,x7.2.2.2.1,x7.2.2.2.2,true),()):=by kernel_rfl
def Cz:TC:=
 (zS [Ql 4 1000000005,bf 5] (zS [af 10 1,zIo 11 10,dG 12 11,bH 6] (zS [jo 13 6 104 12 12,[o1 15 (.build dP [(0,.t 14)])],Ql 7 1000000008,fZ 7 15 7 15] (zS [jo 16 6 103 12 12,jX 18 7 7 1 17] (zS [jo 19 6 104 12 12,jX 21 7 7 3 20] (zS [jo 22 6 176 12 12,uO 24 7 23 7 2 23] (zS [Gb 26 0 7 4,KX 28 101 26 27 25 0 1 8] (zQ (.seq (.join [⟨43,[.b],false⟩] 17590038560768 none (zR [qM 31 6,mK 32 31 12 2,y_ 35 34 9 4,kM 37 36 4 35,dH 40 8 8,dH 41 1 8,F9 42 40 41 8 39])) (zC 43 (zS [zIq 44,fZ 4 44 4 44,bf 5] .ret) .skip)) (zS [mH 45 7 4,zIr 45 45 45 45 27,fI 5] .ret)))))))))
def OD:aI:=⟨[.rd false [.d],.rd false [.d]],(.tup [(true,4),(false,1)] [.d,.d,.sl (.own none) [.d,.d],.d,.d])⟩
def CB:aJ:=aA [(104,xy),(103,xw),(176,uy),(101,Co)]
def CE (n:Nat):Int × ByteArray->Option (aqc × Unit):=aB n CB Cz [[.i .i64],[.s]] agM [] [4,5] .no
def CF:=CE BIG
def OE:TSp:=⟨OD,[[.i .i64],[.s]],agM,[],Ou.j .no,CF⟩
theorem acv:aL PG CB 107 OD (Cz.ht 46) .no=some (Cz.wc CB,[4,5]):=by kernel_rfl
theorem ZU:OE.Ok PG 107:=aM (ae zU (ae zP (ae Cy (ae Lj (ak PG))))) acv (by kernel_rfl)
theorem acw (n) (a0) (a1):CE n (a0,a1) = (eQ (a1,(0:Int),false)).bind fun r0=> (gp r0.2).bind fun r1=> (eQ r1.2).bind fun r2=> (iO r2.2).bind fun r3=> (nH (a0,(r0.1,r1.1,r3.1,r2.1))).bind fun r4=> (bif r3.2.2.2 then some true else bif !r4.1.2 then some true else some (!(r4.1.1.toList == a1.toList)):Option (Bool)).bind fun x5=> bif x5 then some (((0:Int),(0:Int),[],(0:Int),false),()) else some ((r0.1,r1.1,r3.1,r2.1,true),()):=by kernel_rfl
def Kj:TC:=
 (zS [F7 4 1000000005,bf 5] (zS [af 10 1,zIo 11 10,dG 12 11,bH 6] (zS [jo 13 6 103 12 12,[o1 15 (.build oC [(0,.t 14)])],F7 7 1000000008,fZ 7 15 7 15] (zQ (.join [⟨12,[.s,.i .i64,.b],false⟩,⟨7,oC,false⟩] 9223372036854714496 none (zS [bP 16 7 0] (.block 0 (zS [C_ 19 17 1] (zC 18 (zS [jo 20 6 104 12 12,yZ 22,yV 7 7 1 23 21] (zS [jo 24 6 104 12 12,yZ 26,yV 7 7 2 27 25] (zS [jo 28 6 104 12 12,yZ 30,yV 7 7 3 31 29] (zR [jo 32 6 104 12 12,yZ 34,yV 7 7 4 35 33])))) (zS [jq 37 17 2 36] (zC 36 (zS [jo 38 6 104 12 12,jX 40 7 7 5 39] (zR [af 42 0,qM 43 6,jo 44 6 104 12 12,zGo 106 12 45 46 12 46,KW 47 105 42 46 41 4,gW 49 41 4,uO 50 7 48 7 6 48])) (zS [jq 52 17 3 51] (zC 51 (zR [af 54 0,qM 55 6,jo 56 6 104 12 12,zGo 106 12 57 58 12 58,KW 59 107 54 58 53 4,gW 61 53 4,uO 62 7 60 7 10 60]) .skip))))))))) (zS [Gb 64 0 7 14,KX 66 25 64 65 63 0 1 8] (zQ (.seq (.join [⟨81,[.b],false⟩] 4835112982648157993172992 none (zR [qM 69 6,mK 70 69 12 2,y_ 73 72 9 4,kM 75 74 4 73,dH 78 8 8,dH 79 1 8,F9 80 78 79 8 77])) (zC 81 (zS [[o1 82 (.build oC [])],fZ 4 82 4 82,bf 5] .ret) .skip)) (zS [mH 83 7 14,zIr 83 83 83 83 65,fI 5] .ret)))))))
def VK:aI:=⟨[.rd false [.d],.rd false [.d]],(.tup [(true,14),(false,1)] [.d,.d,.d,.d,.d,.d,.d,.d,.sl (.own none) [.d,.d],.sl (.own none) [.d],.d,.d,.sl (.own none) [.d,.d],.d,.d])⟩
def Kk:aJ:=aA [(103,xw),(104,xy),(106,Kc),(105,Ls),(107,OE),(25,zM)]
def Kl (n:Nat):Int × ByteArray->Option (Zt3 × Unit):=aB n Kk Kj [[.i .i64],[.s]] Ty4 [] [4,5] .no
def Km:=Kl BIG
def VL:TSp:=⟨VK,[[.i .i64],[.s]],Ty4,[],Ou.j .no,Km⟩
theorem ah_:aL PG Kk 28 VK (Kj.ht 84) .no=some (Kj.wc Kk,[4,5]):=by kernel_rfl
theorem aef:VL.Ok PG 28:=aM (ae zP (ae zU (ae Rj (ae XC (ae ZU (ae Fx (ak PG))))))) ah_ (by kernel_rfl)
theorem aia (n) (a0) (a1):Kl n (a0,a1) = (gp (a1,(0:Int),false)).bind fun r0=> (bif decide (r0.1=(1:Int)) then (eQ r0.2).bind fun r1=> (eQ r1.2).bind fun r2=> (eQ r2.2).bind fun r3=> (eQ r3.2).bind fun r4=> some (r4.2,(r0.1,r1.1,r2.1,r3.1,r4.1,(0:Int),(0:Int),false,[],[],(0:Int),(0:Int),[],(0:Int))) else bif decide (r0.1=(2:Int)) then (eQ r0.2).bind fun r5=> (eQ r5.2).bind fun r6=> (oq (r6.2,r6.1)).bind fun r7=> (yO (a0,r7.1)).bind fun r8=> some (r7.2,(r0.1,(0:Int),(0:Int),(0:Int),(0:Int),r5.1,r8.1.1,r8.1.2.1,r8.1.2.2.1,r8.1.2.2.2.1,(0:Int),(0:Int),[],(0:Int))) else bif decide (r0.1=(3:Int)) then (eQ r0.2).bind fun r9=> (oq (r9.2,r9.1)).bind fun r10=> (CF (a0,r10.1)).bind fun r11=> some (r10.2,(r0.1,(0:Int),(0:Int),(0:Int),(0:Int),(0:Int),(0:Int),false,[],[],r11.1.1,r11.1.2.1,r11.1.2.2.1,r11.1.2.2.2.1)) else some (r0.2,(r0.1,(0:Int),(0:Int),(0:Int),(0:Int),(0:Int),(0:Int),false,[],[],(0:Int),(0:Int),[],(0:Int))):Option ((ByteArray × Int × Bool) × YA)).bind fun x12=> (om (a0,x12.2)).bind fun r13=> (bif x12.1.2.2 then some true else bif !r13.1.2 then some true else some (!(r13.1.1.toList == a1.toList)):Option (Bool)).bind fun x14=> bif x14 then some (((0:Int),(0:Int),(0:Int),(0:Int),(0:Int),(0:Int),(0:Int),false,[],[],(0:Int),(0:Int),[],(0:Int),false),()) else some ((x12.2.1,x12.2.2.1,x12.2.2.2.1,x12.2.2.2.2.1,x12.2.2.2.2.2.1,x12.2.2.2.2.2.2.1,x12.2.2.2.2.2.2.2.1,x12.2.2.2.2.2.2.2.2.1,x12.2.2.2.2.2.2.2.2.2.1,x12.2.2.2.2.2.2.2.2.2.2.1,x12.2.2.2.2.2.2.2.2.2.2.2.1,x12.2.2.2.2.2.2.2.2.2.2.2.2.1,x12.2.2.2.2.2.2.2.2.2.2.2.2.2.1,x12.2.2.2.2.2.2.2.2.2.2.2.2.2.2,true),()):=by kernel_rfl
def OG:TC:=
 (zS [bf 2] (zQ (zS [af 19 0,ib 20 7 19] (zC 20 (zS [fI 2] .ret) .skip)) (zS [af 22 0,KY 23 22 22 21,gW 24 21 0,zHs 21 1 14 25 21,F7 4 1000000005,af 3 24,fZ 4 25 4 25] (zS [Gb 27 3 4 14,KX 29 23 27 28 26 0 1 5] (zS [bM 33 3 5,KW 35 24 33 34 32 14,gW 37 32 14,F7 7 1000000008,AC 7 36 7 36] (zS [Gb 39 3 4 14,KX 41 25 39 40 38 0 1 9] (zQ (.seq (.join [⟨101,[.b],false⟩] 5070602400912917588394626777088 none (zR [bM 44 6 10,[o1 46 (.data (.beq true) [.t 44,.t 45])],y_ 47 46 6 3,dH 49 48 3,fq 50 8 5,Qn 51 50 5,fq 52 51 5,oD 53 8 7 0 8,oD 55 8 4 0 8,zEd 57 54 56 8,zIs 52 57 58 58 5,fq 59 58 5,rX 60 15,Qs 61 7 1 60 4 15,rX 62 15,Qs 63 4 1 62 4 15,[o2 64 (.eqA [.i,.i,.i,.i] (.t 61) (.t 63) true) 15 false],zIs 59 64 65 65 5,fq 66 65 5,pu 67 22 7 5,pu 69 22 4 5,zEd 71 68 70 22,zIs 66 71 72 72 5,fq 73 72 5,rX 74 29,zIt 75 7 6 74 4 29,rX 76 29,zIt 77 4 6 76 4 29,yY 26 75 77 78 78 29,zBp 79 78 29,zIs 73 79 80 80 5,fq 81 80 5,zLd 82 37,Az 84 7 10 83 37,zLd 85 37,Az 87 4 10 86 37,zEd 88 84 87 37,zIs 81 88 89 89 5,fq 90 89 5,zLd 91 46,zIt 93 7 12 92 1 46,zLd 94 46,zIt 96 4 12 95 1 46,yY 20 93 96 97 97 46,zBp 98 97 46,zIs 90 98 99 99 5,KZ 49 99 100 100 3 47])) (zC 101 (zS [bf 2] .ret) .skip)) (zS [af 103 0,KY 104 27 103 102,Qw 105 102 0 1 11] (zS [pq 108 11,KW 110 24 108 109 107 14,gW 112 107 14,F7 13 1000000014,AC 13 111 13 111] (zS [pq 114 11,KW 116 28 114 115 113 14,gW 118 113 14,F7 15 1000000016,AC 15 117 15 117] (zS [af 120 11,mH 121 13 14,KX 122 23 120 121 119 0 1 17] (zQ (.join [⟨2,[.b],false⟩] 174182036567655375985314877179136353239044 none (zR [af 125 14,af 126 16,[o1 127 (.data (.beq false) [.t 125,.t 126])],Ga 128 127 14 3,Qn 130 129 3,fq 131 130 3,dH 132 17 6,dH 133 12 6,zDw 134 132 133 6,zIs 131 134 135 135 3,mM 128 135 136 2])) .ret))))))))))))
def Y3:aI:=⟨[.rd false gK],(.one false [.d])⟩
def OH:aJ:=aA [(7,ajO),(22,Gq),(23,JN),(24,Vv),(25,zM),(26,Lp),(20,Ct),(27,Gw),(28,VL)]
def OI (n:Nat):List (Int)->Option ((Bool) × Unit):=aB n OH OG [[.sl [.i .u8]]] [.b] [] [2] .no
def Y4:=OI BIG
def akt:TSp:=⟨Y3,[[.sl [.i .u8]]],[.b],[],Ou.j .no,Y4⟩
theorem aku:aL PG OH 5 Y3 (OG.ht 137) .no=some (OG.wc OH,[2]):=by kernel_rfl
theorem aib:akt.Ok PG 5:=aM (ae aoq (ae Vg (ae Rb (ae ad8 (ae Fx (ae Xz (ae Ll (ae VD (ae aef (ak PG)))))))))) aku (by kernel_rfl)
theorem akv (n) (a0):OI n a0 = (abJ a0).bind fun r0=> bif r0.1 then some (true,()) else (vS a0).bind fun r1=> (nY (r1.1.1,r1.1.2)).bind fun r2=> (zJ (r1.1.1,r2.1.1)).bind fun r3=> (om (r1.1.1,r1.1.2)).bind fun r4=> (bif !(r2.1.2 == r4.1.2) then some true else bif r2.1.2 then bif !r3.1.2.2.2.2.2.2.2.2.2.2.2.2.2.2 then some true else bif !decide (r3.1.1=r1.1.2.1) then some true else bif !(decide (r3.1.2.1=r1.1.2.2.1)&&(decide (r3.1.2.2.1=r1.1.2.2.2.1)&&(decide (r3.1.2.2.2.1=r1.1.2.2.2.2.1)&&(decide (r3.1.2.2.2.2.1=r1.1.2.2.2.2.2.1)&&true)))) then some true else bif !decide (r3.1.2.2.2.2.2.1=r1.1.2.2.2.2.2.2.1) then some true else (pW ((r3.1.2.2.2.2.2.2.1,r3.1.2.2.2.2.2.2.2.1,r3.1.2.2.2.2.2.2.2.2.1,r3.1.2.2.2.2.2.2.2.2.2.1),(r1.1.2.2.2.2.2.2.2.1,r1.1.2.2.2.2.2.2.2.2.1,r1.1.2.2.2.2.2.2.2.2.2.1,r1.1.2.2.2.2.2.2.2.2.2.2.1))).bind fun r5=> bif !r5.1 then some true else bif !decide (r3.1.2.2.2.2.2.2.2.2.2.2.1=r1.1.2.2.2.2.2.2.2.2.2.2.2.1) then some true else (nI (r3.1.2.2.2.2.2.2.2.2.2.2.2.2.1,r1.1.2.2.2.2.2.2.2.2.2.2.2.2.2.1)).bind fun r6=> some !r6.1 else some false:Option (Bool)).bind fun x7=> bif x7 then some (false,()) else (wm a0).bind fun r8=> (zJ (r8.1.1,r8.1.2)).bind fun r9=> (Km (r8.1.1,r8.1.2)).bind fun r10=> (nY (r8.1.1,(r9.1.1,r9.1.2.1,r9.1.2.2.1,r9.1.2.2.2.1,r9.1.2.2.2.2.1,r9.1.2.2.2.2.2.1,r9.1.2.2.2.2.2.2.1,r9.1.2.2.2.2.2.2.2.1,r9.1.2.2.2.2.2.2.2.2.1,r9.1.2.2.2.2.2.2.2.2.2.1,r9.1.2.2.2.2.2.2.2.2.2.2.1,r9.1.2.2.2.2.2.2.2.2.2.2.2.1,r9.1.2.2.2.2.2.2.2.2.2.2.2.2.1,r9.1.2.2.2.2.2.2.2.2.2.2.2.2.2.1))).bind fun r11=> (bif (r9.1.2.2.2.2.2.2.2.2.2.2.2.2.2.2 == r10.1.2.2.2.2.2.2.2.2.2.2.2.2.2.2) then bif !r9.1.2.2.2.2.2.2.2.2.2.2.2.2.2.2 then some true else some (r11.1.1.toList == r8.1.2.toList) else some false:Option (Bool)).bind fun x12=> some (x12,()):=by kernel_rfl
end
end Go.Fw
