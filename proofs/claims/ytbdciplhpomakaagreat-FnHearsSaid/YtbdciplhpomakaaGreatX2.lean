/- The given functions, as what they compute; each is shown to be what the code does. No conditions. -/
import Derived.Test.YtbdciplhpomakaaGreatX1
set_option linter.unusedVariables false
set_option linter.unusedSimpArgs false
set_option linter.unusedSectionVars false
namespace Go.Fw
noncomputable section
def LJ:TC:=
 (zS [qM 4 1000000005] (zS [Jn 7 1,jC 38 8 9 9,zIk 5 1000000006,dW 5 9 5 9] (zS [d_ 10,XP 11 5 0 10 15,dX 12 51 11,qM 6 1000000007,dW 6 12 6 12] (zQ (.join [⟨0,bg,false⟩,⟨6,bC,false⟩] 39614081257132168796771967041 none (zS [EO 13 112 40] (.block 0 (zS [Kl 16 14 0] (zC 15 (zR [bN 17,zIz 12 13 18 18,jC 125 18 19 19,qP 20 6 6 0 19]) (zS [jD 22 14 1 21] (zC 21 (zR [bN 25,zIA 23 23,zIB 1 23 24 24,zIz 1 4 26 26,jC 125 26 27 27,zEn 28 24,XL 6 24 6 1 28 27]) (zS [jD 30 14 2 29] (zC 29 (zR [bN 33,EH 0 31 31,zIv 6 2 31 32 32,zGo 34,jC 160 34 35 35,Kg 36 35,OH 32 32 36 37 32 32 6 37 6 6 2]) (zS [jD 40 14 3 39] (zC 39 (zR [bN 45,EH 0 41 41,zIv 6 3 41 42 42,EH 0 43 43,zGA 0 6 0 43 44 44,bF 46 6 0,jC 161 47 48 48,Kg 49 48,fJ 50 142 44 49,zEn 51 42,[o4 2 [6,50,51,46,43,42,41] (.store 6 [(3,1)] 0 (.t 51) (.t 50))]]) (zS [jD 53 14 4 52] (zC 52 (zR [bN 56,zIA 54 54,zIB 4 54 55 55,[⟨false,[],[],.det 4 (.sli [.i .i64] [kO (-1),kO 99991,kO 99992]),[57,1000000001,1000000002,1000000003],(some 57),none⟩],jC 125 57 58 58,zEn 59 55,XL 6 55 6 4 59 58]) (zS [jD 61 14 5 60] (zC 60 (zR [EO 62 112 4,zKp 64,zAw 6 6 9 65 63]) (zS [jD 67 14 6 66] (zC 66 (zR [bN 68,bF 69 6 0,jC 162 70 71 71,zKp 72,Te 6 71 6 10 73 71]) (zS [jD 75 14 7 74] (zC 74 (zS [jr 76 6 14,je 78 77,SS 79 78 0] (zC 79 (zR [jr 80 6 14,jr 82 6 14,zEn 84 83,[o1 85 (.load 6 [(14,6)] 0 (.t 84) 6 false)],zHA 86 85,[⟨false,[81],[],.det 2 (.app (some 81) 86),[87,81,81,6,77,84,83],(some 87),none⟩],d_ 88,[o4 2 [6,87,77,84,83,81] (.store 6 [] 14 (.t 88) (.t 87))]]) .skip)) (zS [jD 90 14 8 89] (zC 89 (zR [jr 91 6 4,zIy 92 92 93 92 92 6 93,Tg 94 6 93 92 6 4 93]) .skip))))))))))))))))))))) (zS [nY 95 6 15 4 4 6] .ret)))))
def Yj:aI:=⟨[.mp [.sl (.ro []) [.d],.d,.d],.rd false dF],(.one true l6)⟩
def LK:aH:=aA [(38,zF),(51,xJ),(112,dY),(125,gW),(160,oG),(161,rX),(142,mK),(162,EY)]
def LM (n:Nat):(List Int × Int × Int) × List (Int)->Option (dR × List Int × Int × Int):=aC n LK LJ [bg,[.sl [.i .u8]]] bC bg [4] (.mp 0)
def LP:=LM BIG
def Yk:TSp:=⟨Yj,[bg,[.sl [.i .u8]]],bC,bg,Ou.j (.mp 0),LP⟩
theorem akc:aM PG LK 79 Yj (LJ.ht 96) (.mp 0)=some (LJ.wc LK,[4]):=by kernel_rfl
theorem ahw:Yk.Ok PG 79:=aN (ae Jv (ae Cw (ae dU (ae ig (ae uG (ae ve (ae oD (ae Uv (aj PG))))))))) akc (by kernel_rfl)
theorem akd (n) (a0) (a1):LM n (a0,a1) = (rW (a0,a1)).bind fun r0=> (lh (r0.1.1,r0.1.2.1,r0.1.2.2.1,r0.1.2.2.2.1,r0.1.2.2.2.2.1,r0.1.2.2.2.2.2.1,r0.1.2.2.2.2.2.2.1,r0.1.2.2.2.2.2.2.2.1,r0.1.2.2.2.2.2.2.2.2.1,r0.1.2.2.2.2.2.2.2.2.2.1,r0.1.2.2.2.2.2.2.2.2.2.2.1,r0.1.2.2.2.2.2.2.2.2.2.2.2.1,r0.1.2.2.2.2.2.2.2.2.2.2.2.2.1,r0.1.2.2.2.2.2.2.2.2.2.2.2.2.2.1,r0.1.2.2.2.2.2.2.2.2.2.2.2.2.2.2.1)).bind fun r1=> ((bA (r0.2,(40:Int))).bind fun r2=> bif decide (r2.1=(0:Int)) then (bM (r2.2,[(0:Int),(12:Int),(13:Int)])).bind fun r3=> some (r3.2,(r3.1,r1.1.2)) else bif decide (r2.1=(1:Int)) then (bM (r2.2,[(0:Int),(1:Int),(4:Int)])).bind fun r4=> bnd r1.1.2.1.length (0:Int) fun n5=> r1.1.2.1[n5]?.bind fun y6=> some (r4.2,(r1.1.1,r1.1.2.1.set n5 r4.1,r1.1.2.2)) else bif decide (r2.1=(2:Int)) then (jE (r2.2,((0:Int),[]))).bind fun r7=> bif decide (r1.1.2.2.1.length+[r7.1].length<=4294967296) then some (r7.2,(r1.1.1,r1.1.2.1,r1.1.2.2.1++[r7.1],r1.1.2.2.2)) else none else bif decide (r2.1=(3:Int)) then (jV (r2.2,r1.1.1)).bind fun r8=> (kK (r1.1.1,[r8.1])).bind fun r9=> bnd r1.1.2.2.2.1.length (0:Int) fun n10=> r1.1.2.2.2.1[n10]?.bind fun y11=> some (r8.2,(r1.1.1,r1.1.2.1,r1.1.2.2.1,r1.1.2.2.2.1.set n10 r9.1,r1.1.2.2.2.2)) else bif decide (r2.1=(4:Int)) then (bM (r2.2,[(-1:Int),(99991:Int),(99992:Int)])).bind fun r12=> bnd r1.1.2.2.2.2.1.length (0:Int) fun n13=> r1.1.2.2.2.2.1[n13]?.bind fun y14=> some (r12.2,(r1.1.1,r1.1.2.1,r1.1.2.2.1,r1.1.2.2.2.1,r1.1.2.2.2.2.1.set n13 r12.1,r1.1.2.2.2.2.2)) else bif decide (r2.1=(5:Int)) then (bA (r2.2,(4:Int))).bind fun r15=> some (r15.2,(r1.1.1,r1.1.2.1,r1.1.2.2.1,r1.1.2.2.2.1,r1.1.2.2.2.2.1,r1.1.2.2.2.2.2.1,r1.1.2.2.2.2.2.2.1,r1.1.2.2.2.2.2.2.2.1,r1.1.2.2.2.2.2.2.2.2.1,r15.1,r1.1.2.2.2.2.2.2.2.2.2.2)) else bif decide (r2.1=(6:Int)) then (uK (r2.2,r1.1.1)).bind fun r16=> some (r16.2,(r1.1.1,r1.1.2.1,r1.1.2.2.1,r1.1.2.2.2.1,r1.1.2.2.2.2.1,r1.1.2.2.2.2.2.1,r1.1.2.2.2.2.2.2.1,r1.1.2.2.2.2.2.2.2.1,r1.1.2.2.2.2.2.2.2.2.1,r1.1.2.2.2.2.2.2.2.2.2.1,r16.1.1,r16.1.2.1,r16.1.2.2.1,r16.1.2.2.2,r1.1.2.2.2.2.2.2.2.2.2.2.2.2.2.2)) else bif decide (r2.1=(7:Int)) then bif decide ((0:Int)<(r1.1.2.2.2.2.2.2.2.2.2.2.2.2.2.2.length:Int)) then bnd r1.1.2.2.2.2.2.2.2.2.2.2.2.2.2.2.length (0:Int) fun n17=> r1.1.2.2.2.2.2.2.2.2.2.2.2.2.2.2[n17]?.bind fun y18=> bif decide (r1.1.2.2.2.2.2.2.2.2.2.2.2.2.2.2.length+[y18].length<=4294967296) then some (r2.2,(r1.1.1,r1.1.2.1,r1.1.2.2.1,r1.1.2.2.2.1,r1.1.2.2.2.2.1,r1.1.2.2.2.2.2.1,r1.1.2.2.2.2.2.2.1,r1.1.2.2.2.2.2.2.2.1,r1.1.2.2.2.2.2.2.2.2.1,r1.1.2.2.2.2.2.2.2.2.2.1,r1.1.2.2.2.2.2.2.2.2.2.2.1,r1.1.2.2.2.2.2.2.2.2.2.2.2.1,r1.1.2.2.2.2.2.2.2.2.2.2.2.2.1,r1.1.2.2.2.2.2.2.2.2.2.2.2.2.2.1,r1.1.2.2.2.2.2.2.2.2.2.2.2.2.2.2++[y18])) else none else some (r2.2,r1.1) else bif decide (r2.1=(8:Int)) then bif decide (0<=(1:Int)) then bif decide ((Int.toNat (1:Int))<=r1.1.2.2.2.2.1.length/\r1.1.2.2.2.2.1.length<=r1.1.2.2.2.2.1.length) then some (r2.2,(r1.1.1,r1.1.2.1,r1.1.2.2.1,r1.1.2.2.2.1,List.take (r1.1.2.2.2.2.1.length-(Int.toNat (1:Int))) (List.drop (Int.toNat (1:Int)) r1.1.2.2.2.2.1),r1.1.2.2.2.2.2)) else none else none else some (r2.2,r1.1):Option ((List Int × Int × Int) × dR)).bind fun x19=> some (x19.2,x19.1):=by kernel_rfl
def CY:TC:=
 (zS [qM 2 1000000003,bD 3,Jl 4 1000000005] (zS [ai 14 0,dX 15 37 14,bN 5] (zS [kQ 16 5,ai 17 0,zIj 38 15 17 18 15 18,zIk 6 1000000007,dW 6 18 6 18] (zS [d_ 19,XP 20 6 0 19 15,qM 7 1000000008,vV 20 7 20 7 20 20 6] (zQ (.join [⟨15,bg,false⟩,⟨7,bC,false⟩] 17592183980416 none (zS [bD 8] (.block 0 (.loop [⟨15,bg,false⟩,⟨7,bC,false⟩,⟨8,[.i .i64],false⟩] 17592183980416 (zQ (.seq (.join [⟨27,[.b],false⟩] 266338304 none (zR [ai 21 8,[o1 22 (.data (.bin .lss) [.t 21,kD 20])],ai 23 22,zEy 24 7 15 2,zEv 39 24 25 25 2,zDz 26 25 2,lF 23 26 27])) (zC 27 .skip (.exit 0))) (zQ (.block 1 (zR [kQ 32 5,ai 38 8,zGB 15 7 15 31 31,bF 33 7 0,jr 35 7 3,je 37 36,SY 39 100 38,zIu 15 34 37 39 40 15 40,fJ 41 11 31 40,zLB 41 30 41 15,[o4 2 [7,42,36,31] (.store 7 [] 0 .nil (.t 42))]])) (zR [dZ 28 8 8]))))))) (zS [Tm 44 7 9,ai 9 46] (zS [kQ 47 5,bF 48 7 0,zIj 76 15 49 50 15 50,Jl 10 1000000011,dW 10 50 10 50] (zQ (.join [⟨15,bg,false⟩,⟨10,fQ,false⟩] 37778929611157348072448 none (zQ (.join [⟨15,bg,false⟩,⟨57,[.b],false⟩] 285978576338059264 none (zR [gP 51 7 15,dX 52 39 51,ai 53 52,zIC 54 5 2,zIw 15 6 55 15 55 2,zDz 56 55 2,lF 53 56 57])) (zC 57 (zS [ai 61 9,zLo 1000000012 1000000013 59 59 6 15 1,[⟨false,[],[1000000012,1000000013],.det 1 (.data (.bin .sub) [.t 61,kD 1]),[62],(some 62),none⟩],zIo 1000000012 1000000013 60 62 63 63,zIp 1000000012 1000000013 6 63 64 64,zHf 1000000012 1000000013 65 65,zLp 1000000012 1000000013 65 66 66 7 10 4,zKq 1000000012 1000000013 40 64 67 68 68 58 58 0 7,zIr 1000000012 1000000013 58 7 4 70 58 70,zHn 1000000012 1000000013 58 11 71 71,zIs 1000000013 11 1000000012 11,zIt 1000000012 12 1000000013 12,dW 11 69 11 69,vZ 12 70 12 70] (zS [ai 72 13,tJ 73 72 0] (zC 73 (zR [gP 74 12 4,vV 74 10 74 10 74 74 12]) .skip))) .skip))) (zQ (.join [⟨15,bg,false⟩,⟨10,fQ,false⟩] 4797924346595559537148928 none (zS [kQ 75 5,zID 77 15 10 76 15 76] (zC 76 (zR [zKp 77,yJ 79 78,EE 80 7 10 79,qP 81 10 10 0 80]) .skip))) (zQ (.join [⟨15,bg,false⟩,⟨9,[.i .i64],false⟩] 72535549176877750482403840 none (zS [kQ 82 5,zID 77 15 15 83 15 83] (zC 83 (zR [kQ 84 5,zID 78 15 4 85 15 85,ai 9 85]) .skip))) (zQ (.join [⟨7,bC,false⟩] 2398508826117676082430771328 none (zS [kQ 86 5,zID 77 15 15 87 15 87] (zC 87 (zR [kQ 88 5,ai 89 0,zIj 79 15 89 90 15 90,[o4 2 [7,90,51] (.store 7 [] 0 .nil (.t 90))]]) .skip))) (zS [ai 92 9,gP 91 7 15,zIE 2 10 93 93,vV 91 2 91 2 91 91 7,ai 3 92,vV 93 4 93 4 93 93 10] .ret))))))))))))
def Pi:aI:=⟨[.rd false dF],(.tup [(true,15),(false,1),(true,4)] [.d,.sl (.own none) [.d],.sl (.own none) [.d,.d],.sl (.own none) dF,.sl (.own none) [.d],.d,.d,.d,.d,.d,.d,.d,.sl (.own none) [.d,.d],.d,.sl (.own none) aaL,.d,.d,.d,.sl (.own none) [.d,.d],.sl (.own none) [.d]])⟩
def CZ:aH:=aA [(37,XV),(38,zF),(39,EQ),(41,Lu),(11,Wh),(76,Bh),(77,rY),(40,VZ),(78,Pf),(79,Yk)]
def C8 (n:Nat):List (Int)->Option ((Int × List Int × List aF × List (List Int) × List Int × Int × Int × Int × Int × Int × Int × Int × List aF × Int × List nL × Int × Int × Bool × List aF × List Int) × Unit):=aC n CZ CY [[.sl [.i .u8]]] [.i .i64,.sl [.i .i64],.sl [.i .i64,.i .i64],.sl [.sl [.i .i64]],.sl [.i .i64],.i .i64,.i .i64,.i .i64,.i .i64,.i .i64,.i .i64,.i .i64,.sl [.i .i64,.i .i64],.i .i64,.sl XJ,.i .i64,.i .i64,.b,.sl [.i .i64,.i .i64],.sl [.i .i64]] [] [2,3,4] .no
def C9:=C8 BIG
def Pj:TSp:=⟨Pi,[[.sl [.i .u8]]],[.i .i64,.sl [.i .i64],.sl [.i .i64,.i .i64],.sl [.sl [.i .i64]],.sl [.i .i64],.i .i64,.i .i64,.i .i64,.i .i64,.i .i64,.i .i64,.i .i64,.sl [.i .i64,.i .i64],.i .i64,.sl XJ,.i .i64,.i .i64,.b,.sl [.i .i64,.i .i64],.sl [.i .i64]],[],Ou.j .no,C9⟩
theorem ady:aM PG CZ 18 Pi (CY.ht 94) .no=some (CY.wc CZ,[2,3,4]):=by kernel_rfl
theorem abA:Pj.Ok PG 18:=aN (ae agH (ae Jv (ae F3 (ae Ul (ae abt (ae QW (ae vg (ae abh (ae aby (ae ahw (aj PG))))))))))) ady (by kernel_rfl)
theorem adz (n) (a0):C8 n a0 = (AQ a0).bind fun r0=> (rW (r0.1,a0)).bind fun r1=> (aJ n (X:=(List Int × Int × Int) × dR × Int) (B:=(List Int × Int × Int) × dR) (fun self3 x2=> (bif decide (x2.2.2<(20:Int)) then (nz x2.2.1).bind fun r4=> some !r4.1 else some false:Option (Bool)).bind fun x5=> bif x5 then (Bf (x2.1,x2.2.1.1,(x2.2.1.2.2.2.1.length:Int),IntKind.wrap .i64 ((100:Int)+x2.2.2))).bind fun r6=> (EW (x2.2.1,r6.1)).bind fun r7=> self3 (r6.2,(r7.1.1,r7.1.2.1,r7.1.2.2.1,r7.1.2.2.2.1,r7.1.2.2.2.2.1,r7.1.2.2.2.2.2.1,r7.1.2.2.2.2.2.2.1,r7.1.2.2.2.2.2.2.2.1,r7.1.2.2.2.2.2.2.2.2.1,r7.1.2.2.2.2.2.2.2.2.2.1,r7.1.2.2.2.2.2.2.2.2.2.2.1,r7.1.2.2.2.2.2.2.2.2.2.2.2.1,r7.1.2.2.2.2.2.2.2.2.2.2.2.2.1,r7.1.2.2.2.2.2.2.2.2.2.2.2.2.2.1,r7.1.2.2.2.2.2.2.2.2.2.2.2.2.2.2.1),IntKind.wrap .i64 (x2.2.2+(1:Int))) else some (x2.1,x2.2.1)) (r1.2,(r1.1.1,r1.1.2.1,r1.1.2.2.1,r1.1.2.2.2.1,r1.1.2.2.2.2.1,r1.1.2.2.2.2.2.1,r1.1.2.2.2.2.2.2.1,r1.1.2.2.2.2.2.2.2.1,r1.1.2.2.2.2.2.2.2.2.1,r1.1.2.2.2.2.2.2.2.2.2.1,r1.1.2.2.2.2.2.2.2.2.2.2.1,r1.1.2.2.2.2.2.2.2.2.2.2.2.1,r1.1.2.2.2.2.2.2.2.2.2.2.2.2.1,r1.1.2.2.2.2.2.2.2.2.2.2.2.2.2.1,r1.1.2.2.2.2.2.2.2.2.2.2.2.2.2.2.1),(0:Int)):Option ((List Int × Int × Int) × dR)).bind fun x8=> (sj (x8.1,x8.2.1)).bind fun r9=> (((nz x8.2).bind fun r10=> bif r10.1 then (gz (r9.2,(6:Int))).bind fun r11=> some (r11.2,!r11.1) else some (r9.2,false):Option ((List Int × Int × Int) × Bool)).bind fun x12=> bif x12.2 then bnd r1.1.2.2.2.2.2.2.2.2.2.2.2.2.2.2.2.length (IntKind.wrap .i64 (x8.2.2.2.2.2.2.2.2.2.2.1-(1:Int))) fun n13=> r1.1.2.2.2.2.2.2.2.2.2.2.2.2.2.2.2[n13]?.bind fun y14=> (lL (y14,(x8.2.2.2.2.2.2.2.2.2.2.2.1,x8.2.2.2.2.2.2.2.2.2.2.2.2.1,x8.2.2.2.2.2.2.2.2.2.2.2.2.2.1,x8.2.2.2.2.2.2.2.2.2.2.2.2.2.2.1))).bind fun r15=> bif decide (r15.1.2.2.2.2.2.2.2.2.2.2.2=(0:Int)) then some (x12.1,(r15.1.2.2.2.2.2.2.2.1,r15.1.2.2.2.2.2.2.2.2.1,r15.1.2.2.2.2.2.2.2.2.2.1,r15.1.2.2.2.2.2.2.2.2.2.2.1)) else some (x12.1,r9.1) else some (x12.1,r9.1):Option ((List Int × Int × Int) × iC)).bind fun x16=> ((gz (x16.1,(10:Int))).bind fun r17=> bif r17.1 then some (r17.2,(x8.2.2.2.2.2.2.2.2.2.2.2.1,x16.2.2)) else some (r17.2,x16.2):Option ((List Int × Int × Int) × iC)).bind fun x18=> ((gz (x18.1,(15:Int))).bind fun r19=> bif r19.1 then (og (r19.2,(4:Int))).bind fun r20=> some (r20.2,r20.1) else some (r19.2,x8.2.2.2.2.2.2.2.2.2.2.1):Option ((List Int × Int × Int) × Int)).bind fun x21=> ((gz (x21.1,(15:Int))).bind fun r22=> bif r22.1 then (LP (r22.2,a0)).bind fun r23=> some r23.1 else some x8.2:Option (dR)).bind fun x24=> some ((x24.1,x24.2.1,x24.2.2.1,x24.2.2.2.1,x24.2.2.2.2.1,x24.2.2.2.2.2.1,x24.2.2.2.2.2.2.1,x24.2.2.2.2.2.2.2.1,x24.2.2.2.2.2.2.2.2.1,x24.2.2.2.2.2.2.2.2.2.1,x24.2.2.2.2.2.2.2.2.2.2.1,x24.2.2.2.2.2.2.2.2.2.2.2.1,x24.2.2.2.2.2.2.2.2.2.2.2.2.1,x24.2.2.2.2.2.2.2.2.2.2.2.2.2.1,x24.2.2.2.2.2.2.2.2.2.2.2.2.2.2,x21.2,x18.2),()):=by kernel_rfl
def C_:TC:=
 (zS [EF 2] (zS [ai 3 0,zJa 4 3,bV 4 2 4] .ret))
def Pk:aI:=⟨[.rd false dF],(.one false dF)⟩
def Da:aH:=aA []
def vk (n:Nat):List (Int)->Option ((List Int) × Unit):=aC n Da C_ [[.sl [.i .i64]]] [.sl [.i .i64]] [] [2] .no
def jf:=vk BIG
def vo:TSp:=⟨Pk,[[.sl [.i .i64]]],[.sl [.i .i64]],[],Ou.j .no,jf⟩
theorem adA:aM PG Da 72 Pk (C_.ht 5) .no=some (C_.wc Da,[2]):=by kernel_rfl
theorem zK:vo.Ok PG 72:=aN (aj PG) adA (by kernel_rfl)
theorem Pm (n) (a0):vk n a0 = bif decide (a0.length<=4294967296) then some (a0,()) else none:=by kernel_rfl
def zM:TC:=
 (zS [vX 2] (zS [ai 3 0,zJa 4 3,bV 4 2 4] .ret))
def LQ:aI:=⟨[.rd false fE],(.one false fE)⟩
def zN:aH:=aA []
def zO (n:Nat):(List aF)->Option ((List aF) × Unit):=aC n zN zM [[.sl [.i .i64,.i .i64]]] [.sl [.i .i64,.i .i64]] [] [2] .no
def mR:=zO BIG
def su:TSp:=⟨LQ,[[.sl [.i .i64,.i .i64]]],[.sl [.i .i64,.i .i64]],[],Ou.j .no,mR⟩
theorem abB:aM PG zN 132 LQ (zM.ht 5) .no=some (zM.wc zN,[2]):=by kernel_rfl
theorem wL:su.Ok PG 132:=aN (aj PG) abB (by kernel_rfl)
theorem abC (n) (a0):zO n a0 = bif decide (a0.length<=4294967296) then some (a0,()) else none:=by kernel_rfl
def Db:TC:=
 (zS [bW 1 0,zHv 2 1000000003] (zS [d_ 3,yJ 4 3,EE 5 1 7 4,dX 6 132 5,d_ 7,yJ 8 7,AJ 6 7 8 6] (zS [gP 9 1 9,vV 9 2 9 2 9 9 1] .ret)))
def Pn:aI:=⟨[.rd true Ct4],(.one true Ct4)⟩
def Dc:aH:=aA [(132,su)]
def De (n:Nat):Zt7->Option (Zt7 × Unit):=aC n Dc Db [Kc] Kc [] [2] .no
def Df:=De BIG
def Po:TSp:=⟨Pn,[Kc],Kc,[],Ou.j .no,Df⟩
theorem adB:aM PG Dc 133 Pn (Db.ht 10) .no=some (Db.wc Dc,[2]):=by kernel_rfl
theorem abD:Po.Ok PG 133:=aN (ae wL (aj PG)) adB (by kernel_rfl)
theorem adC (n) (a0):De n a0 = (mR a0.2.2.2.2.2.2.2.1).bind fun r0=> some ((a0.1,a0.2.1,a0.2.2.1,a0.2.2.2.1,a0.2.2.2.2.1,a0.2.2.2.2.2.1,a0.2.2.2.2.2.2.1,r0.1,a0.2.2.2.2.2.2.2.2),()):=by kernel_rfl
def Dg:TC:=
 (zS [bW 1 0,qM 2 1000000003] (zS [EH 1000000004 6 6,zGA 1000000004 1 0 6 7 7,EH 1000000004 8 8,zGA 1000000004 1 1 8 9 9,zGu 1000000004 72 9 10 10,Jm 1000000004 11 11 1 2,zGu 1000000004 132 12 13 13,Jm 1000000004 14 14 1 4,zGu 1000000004 72 15 16 16,EH 1000000004 17 17,[⟨false,[],[1000000004],.det 1 (.load 1 [] 5 (.t 17) 9 false),[18],(some 18),none⟩],zGu 1000000004 133 18 19 19,Jm 1000000004 20 20 1 14,[⟨false,[],[1000000004],.det 1 (.app none 21),[22],(some 22),none⟩,⟨false,[],[1000000004],.det 6 (.build bC [(0,.t 7),(1,.t 10),(2,.t 13),(4,.t 16),(5,.t 19),(14,.t 22)]),[23,10,13,16,19,22],(some 23),none⟩],qM 3 1000000004,dW 3 23 3 23] (zQ (.join [⟨3,bC,false⟩] 549739036712 none (zS [bF 24 1 3,jR 26 25] (.block 0 (.loop [⟨3,bC,false⟩,⟨27,[.i .i64],false⟩] 549621596200 (zS [eD 28 27 26] (zQ (zC 28 .skip (.exit 0)) (zQ (.block 1 (zS [ku 29 25 27 1,ai 5 30] (zR [ai 33 5,jr 31 3 3,dX 34 72 33,zBw 34 35 34,zBx 32 32 35 36 32 35 32 3 36,Tg 37 3 36 32 3 3 36]))) (zR [l7 38 27])))))))) (zS [nY 39 3 15 2 2 3] .ret))))
def Pp:aI:=⟨[.rd true l6],(.one true l6)⟩
def Di:aH:=aA [(72,vo),(132,su),(133,Po)]
def Dj (n:Nat):dR->Option (dR × Unit):=aC n Di Dg [bC] bC [] [2] .no
def Dk:=Dj BIG
def Pq:TSp:=⟨Pp,[bC],bC,[],Ou.j .no,Dk⟩
theorem adD:aM PG Di 47 Pp (Dg.ht 40) .no=some (Dg.wc Di,[2]):=by kernel_rfl
theorem abE:Pq.Ok PG 47:=aN (ae zK (ae wL (ae abD (aj PG)))) adD (by kernel_rfl)
theorem adE (n) (a0):Dj n a0 = (jf a0.2.1).bind fun r0=> (mR a0.2.2.1).bind fun r1=> (jf a0.2.2.2.2.1).bind fun r2=> (Df (a0.2.2.2.2.2.1,a0.2.2.2.2.2.2.1,a0.2.2.2.2.2.2.2.1,a0.2.2.2.2.2.2.2.2.1,a0.2.2.2.2.2.2.2.2.2.1,a0.2.2.2.2.2.2.2.2.2.2.1,a0.2.2.2.2.2.2.2.2.2.2.2.1,a0.2.2.2.2.2.2.2.2.2.2.2.2.1,a0.2.2.2.2.2.2.2.2.2.2.2.2.2.1)).bind fun r3=> bif decide (a0.2.2.2.2.2.2.2.2.2.2.2.2.2.2.length<=4294967296) then (aJ n (X:=dR × Int) (B:=dR) (fun self5 x4=> bif decide (x4.2<(a0.2.2.2.1.length:Int)) then bnd a0.2.2.2.1.length x4.2 fun n6=> a0.2.2.2.1[n6]?.bind fun y7=> (jf y7).bind fun r8=> bif decide (x4.1.2.2.2.1.length+[r8.1].length<=4294967296) then self5 ((x4.1.1,x4.1.2.1,x4.1.2.2.1,x4.1.2.2.2.1++[r8.1],x4.1.2.2.2.2),IntKind.wrap .i64 (x4.2+(1:Int))) else none else some x4.1) ((a0.1,r0.1,r1.1,[],r2.1,r3.1.1,r3.1.2.1,r3.1.2.2.1,r3.1.2.2.2.1,r3.1.2.2.2.2.1,r3.1.2.2.2.2.2.1,r3.1.2.2.2.2.2.2.1,r3.1.2.2.2.2.2.2.2.1,r3.1.2.2.2.2.2.2.2.2,a0.2.2.2.2.2.2.2.2.2.2.2.2.2.2),(0:Int)):Option (dR)).bind fun x9=> some (x9,()) else none:=by kernel_rfl
def ahx:TC:=
 (zS [aZ 6] (zQ (.join [⟨6,[.b],false⟩] 32704 none (zR [cB 7 0 1,zAC 9 7 8,Jq 10 9 0 3,eQ 12 2 3,zAD,kU 10 13 14 6])) .ret))
def anD:aI:=⟨[.rd false [.d],.rd false [.d],.rd false [.d]],(.one false [.d])⟩
def ahy:aH:=aA []
def ahz (n:Nat):Int × Int × Int->Option ((Bool) × Unit):=aC n ahy ahx [[.i .i64],[.i .i64],[.i .i64]] [.b] [] [6] .no
def fq:=ahz BIG
def lm:TSp:=⟨anD,[[.i .i64],[.i .i64],[.i .i64]],[.b],[],Ou.j .no,fq⟩
theorem aq_:aM PG ahy 48 anD (ahx.ht 15) .no=some (ahx.wc ahy,[6]):=by kernel_rfl
theorem jW:lm.Ok PG 48:=aN (aj PG) aq_ (by kernel_rfl)
theorem ara (n) (a0) (a1) (a2):ahz n (a0,a1,a2) = (bif decide (a1<=a0) then some (decide (a0<=a2)) else some false:Option (Bool)).bind fun x0=> some (x0,()):=by kernel_rfl
def Dl:TC:=
 (zS [aZ 4] (zQ (zS [tO 7 1 7,ai 9 0,tK 10 8 9] (zC 10 (zS [aZ 4] .ret) .skip)) (zQ (.join [] 2147481712 (some [⟨4,[.b],false⟩]) (zS [ai 11 1,jR 12 11] (.block 0 (.loop [⟨13,[.i .i64],false⟩] 2147475568 (zS [eD 14 13 12] (zQ (zC 14 .skip (.exit 0)) (zQ (.join [] 1073709168 (some [⟨4,[.b],false⟩]) (.block 1 (zS [ai 15 13,ku 16 11 13 1,ai 5 15,ai 6 17] (zQ (.join [⟨29,[.b],false⟩] 1073479680 none (zR [cB 18 6 5,XN 20 48 18 19,kI 21 20,eZ 23 1 4,Tk 24 6 4 23 4,Td 26 23 1 25 4,eZ 27 6 4,EM 28 26 27 4 22])) (zC 29 (zS [aZ 4] .ret) .skip))))) (zR [l7 30 13])))))))) (zS [gH 4] .ret))))
def Ps:aI:=⟨[.rd false [.d],.rd false dF],(.one false [.d])⟩
def Dm:aH:=aA [(48,lm)]
def Dp (n:Nat):Int × List (Int)->Option ((Bool) × Unit):=aC n Dm Dl [[.i .i64],[.sl [.i .i64]]] [.b] [] [4] .no
def vw:=Dp BIG
def Dq:TSp:=⟨Ps,[[.i .i64],[.sl [.i .i64]]],[.b],[],Ou.j .no,vw⟩
theorem adF:aM PG Dm 59 Ps (Dl.ht 31) .no=some (Dl.wc Dm,[4]):=by kernel_rfl
theorem LU:Dq.Ok PG 59:=aN (ae jW (aj PG)) adF (by kernel_rfl)
theorem adG (n) (a0) (a1):Dp n (a0,a1) =
 bif !decide ((a1.length:Int)=a0) then
  some (false,())
 else (aJ n (X:=Int) (B:=(Unit) ⊕ (Bool)) (fun self1 x0=>
  bif decide (x0<(a1.length:Int)) then
   (bnd a1.length x0 fun n2=>
    a1[n2]?.bind fun y3=>
    ((fq (y3,(0:Int),x0)).bind fun r4=>
     bif !r4.1 then
      some true
     else bnd a1.length y3 fun n5=>
     a1[n5]?.bind fun y6=>
     some (!decide (y6=y3)):Option (Bool)).bind fun x7=>
    bif x7 then
     some (Sum.inr false)
    else some (Sum.inl ()):Option ((Unit) ⊕ (Bool))).bind fun y=>match y with
   | .inl x8=>
    self1 (IntKind.wrap .i64 (x0+(1:Int)))
   | .inr x8=>
    some (Sum.inr x8)
  else some (Sum.inl ())) (0:Int):Option ((Unit) ⊕ (Bool))).bind fun y=>match y with
 | .inl x9=>
  some (true,())
 | .inr x9=>
  some (x9,()):=by kernel_rfl
def LV:TC:=
 (zS [iK 3 1] (zQ (.join [⟨4,[.b],false⟩] 268435440 none (zR [ai 5 0,nH 6 48 5 12,ai 7 6,ko 8 2,tF 9 3 0 8 2,eQ 10 0 2,zLC 11 10 2 48 9 2,kS 7 12 13,tN 15 9 3 1 9,eQ 17 0 9,zLC 18 17 9 48 16 9,kS 14 19 20,Kj 22 16 3 0 3 1,zDp 26 23 25 16,kU 21 26 27 4])) .ret))
def Yl:aI:=⟨[.rd false [.d],.rd true [.d,.d]],(.one false [.d])⟩
def LW:aH:=aA [(48,lm)]
def LX (n:Nat):Int × aF->Option ((Bool) × Unit):=aC n LW LV [[.i .i64],[.i .i64,.i .i64]] [.b] [] [4] .no
def Bi:=LX BIG
def LY:TSp:=⟨Yl,[[.i .i64],[.i .i64,.i .i64]],[.b],[],Ou.j .no,Bi⟩
theorem ake:aM PG LW 189 Yl (LV.ht 28) .no=some (LV.wc LW,[4]):=by kernel_rfl
theorem Uw:LY.Ok PG 189:=aN (ae jW (aj PG)) ake (by kernel_rfl)
theorem akf (n) (a0) (a1):LX n (a0,a1) = ((fq (a0,(1:Int),(12:Int))).bind fun r0=> bif r0.1 then (fq (a1.1,(0:Int),IntKind.wrap .i64 (a0-(1:Int)))).bind fun r1=> bif r1.1 then (fq (a1.2,(0:Int),IntKind.wrap .i64 (a0-(1:Int)))).bind fun r2=> bif r2.1 then some (decide (a1.1<a1.2)) else some false else some false else some false:Option (Bool)).bind fun x3=> some (x3,()):=by kernel_rfl
def QY:TC:=
 (zS [bW 2 0,iK 3 1] (zQ (.join [⟨4,[.b],false⟩] 16777200 none (zR [fK 5 2 0 5,fK 7 3 0 7,eD 9 6 8,ai 10 9,iJ 11 5 2 0 5,iJ 13 5 3 0 5,zDs 15 12 14 5,eZ 16 15 5,Kj 17 11 2 1 3 1,zDp 21 18 20 11,AO 16 21 22 22 5 10,ai 4 23])) .ret))
def abF:aI:=⟨[.rd true [.d,.d],.rd true [.d,.d]],(.one false [.d])⟩
def QZ:aH:=aA []
def Q0 (n:Nat):aF × aF->Option ((Bool) × Unit):=aC n QZ QY [[.i .i64,.i .i64],[.i .i64,.i .i64]] [.b] [] [4] .no
def uL:=Q0 BIG
def Hy:TSp:=⟨abF,[[.i .i64,.i .i64],[.i .i64,.i .i64]],[.b],[],Ou.j .no,uL⟩
theorem amb:aM PG QZ 192 abF (QY.ht 24) .no=some (QY.wc QZ,[4]):=by kernel_rfl
theorem LZ:Hy.Ok PG 192:=aN (aj PG) amb (by kernel_rfl)
theorem amc (n) (a0) (a1):Q0 n (a0,a1) = (bif decide (a0.1<a1.1) then some true else bif decide (a0.1=a1.1) then some (decide (a0.2<a1.2)) else some false:Option (Bool)).bind fun x0=> some (x0,()):=by kernel_rfl
def Hz:TC:=
 (zS [aZ 4] (zQ (.join [] 8589934576 (some [⟨4,[.b],false⟩]) (zS [ai 7 1,jR 8 7] (.block 0 (.loop [⟨9,[.i .i64],false⟩] 8589934192 (zS [eD 10 9 8] (zQ (zC 10 .skip (.exit 0)) (zQ (.join [] 4294965360 (some [⟨4,[.b],false⟩]) (.block 1 (zS [ai 11 9,Ki 12 7 9 7 2 2,lG 6 1000000007,ai 5 11,df 6 6 13] (zQ (.join [⟨31,[.b],false⟩] 4294950912 none (zR [ai 14 0,xf 15 6 2 189 14,kI 17 16,eZ 19 5 4,zDv 20 19 0 4,eZ 21 20 4,eQ 22 1 7,eQ 23 5 7,zDn 24 23 7,mH 25 22 24 7,zDx 26 22 2 25 2 7,zHw 27 6 2 7,kR 192 26 27 28 28 7,zDz 29 28 7,AO 21 29 30 30 4 18])) (zC 31 (zS [aZ 4] .ret) .skip))))) (zR [yI 32 9,ai 9 32])))))))) (zS [ai 33 1,je 34 33,zAy 35 34 66,ai 4 35] .ret)))
def Ux:aI:=⟨[.rd false [.d],.rd false fE],(.one false [.d])⟩
def HV:aH:=aA [(189,LY),(192,Hy)]
def HY (n:Nat):Int × (List aF)->Option ((Bool) × Unit):=aC n HV Hz [[.i .i64],[.sl [.i .i64,.i .i64]]] [.b] [] [4] .no
def nC:=HY BIG
def sw:TSp:=⟨Ux,[[.i .i64],[.sl [.i .i64,.i .i64]]],[.b],[],Ou.j .no,nC⟩
theorem ahA:aM PG HV 144 Ux (Hz.ht 36) .no=some (Hz.wc HV,[4]):=by kernel_rfl
theorem vz:sw.Ok PG 144:=aN (ae Uw (ae LZ (aj PG))) ahA (by kernel_rfl)
theorem ahB (n) (a0) (a1):HY n (a0,a1) =
 (aJ n (X:=Int) (B:=(Unit) ⊕ (Bool)) (fun self1 x0=>
  bif decide (x0<(a1.length:Int)) then
   (bnd a1.length x0 fun n2=>
    a1[n2]?.bind fun y3=>
    ((Bi (a0,y3)).bind fun r4=>
     bif !r4.1 then
      some true
     else bif decide ((0:Int)<x0) then
      bnd a1.length (IntKind.wrap .i64 (x0-(1:Int))) fun n5=>
      a1[n5]?.bind fun y6=>
      (uL (y6,y3)).bind fun r7=>
      some !r7.1
     else some false:Option (Bool)).bind fun x8=>
    bif x8 then
     some (Sum.inr false)
    else some (Sum.inl ()):Option ((Unit) ⊕ (Bool))).bind fun y=>match y with
   | .inl x9=>
    self1 (IntKind.wrap .i64 (x0+(1:Int)))
   | .inr x9=>
    some (Sum.inr x9)
  else some (Sum.inl ())) (0:Int):Option ((Unit) ⊕ (Bool))).bind fun y=>match y with
 | .inl x10=>
  some (decide ((a1.length:Int)<=(66:Int)),())
 | .inr x10=>
  some (x10,()):=by kernel_rfl
def Q3:TC:=
 (zS [iK 1 0] (zQ (.seq (.join [⟨20,[.b],false⟩] 2097024 none (zR [fK 7 1 1 7,je 9 8,bF 10 1 0,tK 12 9 11,ai 13 12,iJ 14 6 1 0 6,iJ 16 6 1 2 6,yK 144 15 17 18 18 6,qN 19 18 6 13])) (zC 20 (zS [aZ 2] .ret) .skip)) (zQ (.join [] 34357641236 (some [⟨2,[.b],false⟩]) (zS [bF 21 1 1,jR 23 22] (.block 0 (.loop [⟨24,[.i .i64],false⟩] 34342961172 (zS [eD 25 24 23] (zQ (zC 25 .skip (.exit 0)) (zQ (.block 1 (zS [ku 26 22 24 1,ai 4 27] (zS [OB 28 4 1 3,je 31 30,zHu 32 48 28 1 31,iH 33 32] (zC 33 (zS [aZ 2] .ret) .skip)))) (zR [l7 34 24])))))))) (zQ (.join [] 72057559678189636 (some [⟨2,[.b],false⟩]) (zS [bF 35 1 2,jR 37 36] (.block 2 (.loop [⟨38,[.i .i64],false⟩] 72057319160021060 (zS [eD 39 38 37] (zQ (zC 39 .skip (.exit 2)) (zQ (.block 3 (zS [jq 40 36 38 2 2,lG 6 1000000007,df 6 6 41] (zS [kT 42 1 1 6 0,ku 46 43 45 1,kT 48 1 1 6 1,ku 52 49 51 1,mI 54 47 53] (zC 54 (zS [aZ 2] .ret) .skip)))) (zR [l7 55 38])))))))) (zS [gH 2] .ret)))))
def abG:aI:=⟨[.rd true l6],(.one false [.d])⟩
def Q4:aH:=aA [(144,sw),(48,lm)]
def Q5 (n:Nat):dR->Option ((Bool) × Unit):=aC n Q4 Q3 [bC] [.b] [] [2] .no
def Q6:=Q5 BIG
def abH:TSp:=⟨abG,[bC],[.b],[],Ou.j .no,Q6⟩
theorem amd:aM PG Q4 60 abG (Q3.ht 56) .no=some (Q3.wc Q4,[2]):=by kernel_rfl
theorem akg:abH.Ok PG 60:=aN (ae vz (ae jW (aj PG))) amd (by kernel_rfl)
theorem ame (n) (a0):Q5 n a0 =
 (bif !decide ((a0.2.1.length:Int)=a0.1) then
  some true
  else (nC (a0.1,a0.2.2.1)).bind fun r0=>
  some !r0.1:Option (Bool)).bind fun x1=>
 bif x1 then
  some (false,())
 else (aJ n (X:=Int) (B:=(Unit) ⊕ (Bool)) (fun self3 x2=>
  bif decide (x2<(a0.2.1.length:Int)) then
   bnd a0.2.1.length x2 fun n4=>
   a0.2.1[n4]?.bind fun y5=>
   (fq (y5,(1:Int),(a0.2.2.2.1.length:Int))).bind fun r6=>
   bif !r6.1 then
    some (Sum.inr false)
   else self3 (IntKind.wrap .i64 (x2+(1:Int)))
  else some (Sum.inl ())) (0:Int):Option ((Unit) ⊕ (Bool))).bind fun y=>match y with
 | .inl x7=>
  (aJ n (X:=Int) (B:=(Unit) ⊕ (Bool)) (fun self9 x8=>
   bif decide (x8<(a0.2.2.1.length:Int)) then
    bnd a0.2.2.1.length x8 fun n10=>
    a0.2.2.1[n10]?.bind fun y11=>
    bnd a0.2.1.length y11.1 fun n12=>
    a0.2.1[n12]?.bind fun y13=>
    bnd a0.2.1.length y11.2 fun n14=>
    a0.2.1[n14]?.bind fun y15=>
    bif decide (y13=y15) then
     some (Sum.inr false)
    else self9 (IntKind.wrap .i64 (x8+(1:Int)))
   else some (Sum.inl ())) (0:Int):Option ((Unit) ⊕ (Bool))).bind fun y=>match y with
  | .inl x16=>
   some (true,())
  | .inr x16=>
   some (x16,())
 | .inr x7=>
  some (x7,()):=by kernel_rfl
def L6:TC:=
 (zS [bD 4] (zQ (.join [] 1048560 (some [⟨4,[.i .i64],false⟩]) (zS [ai 7 0,jR 8 7] (.block 0 (.loop [⟨9,[.i .i64],false⟩] 1048176 (zS [eD 10 9 8] (zQ (zC 10 .skip (.exit 0)) (zQ (.block 1 (zS [ai 11 9,Ki 12 7 9 7 6 6,zHy 6 1000000007,ai 5 11,df 6 6 13] (zS [AP 14 6 0 1,mI 17 15 16] (zC 17 (zS [ai 18 5,ai 4 18] .ret) .skip)))) (zR [yI 19 9,ai 9 19])))))))) (zS [zEw 4] .ret)))
def Ym:aI:=⟨[.rd false Ct6,.rd false [.d]],(.one false [.d])⟩
def L8:aH:=aA []
def L9 (n:Nat):(List nL) × Int->Option ((Int) × Unit):=aC n L8 L6 [XI,[.i .i64]] [.i .i64] [] [4] .no
def Bj:=L9 BIG
def L_:TSp:=⟨Ym,[XI,[.i .i64]],[.i .i64],[],Ou.j .no,Bj⟩
theorem akh:aM PG L8 49 Ym (L6.ht 20) .no=some (L6.wc L8,[4]):=by kernel_rfl
theorem Uy:L_.Ok PG 49:=aN (aj PG) akh (by kernel_rfl)
theorem aki (n) (a0) (a1):L9 n (a0,a1) = (aJ n (X:=Int) (B:=(Unit) ⊕ (Int)) (fun self1 x0=> bif decide (x0<(a0.length:Int)) then bnd a0.length x0 fun n2=> a0[n2]?.bind fun y3=> bif decide (y3.1=a1) then some (Sum.inr x0) else self1 (IntKind.wrap .i64 (x0+(1:Int))) else some (Sum.inl ())) (0:Int):Option ((Unit) ⊕ (Int))).bind fun y=>match y with | .inl x4=> some ((-1:Int),()) | .inr x4=> some (x4,()):=by kernel_rfl
def Ma:TC:=
 (zS [aZ 2] (zQ (.join [] 17179869180 (some [⟨2,[.b],false⟩]) (zS [ai 5 0,jR 6 5] (.block 0 (.loop [⟨7,[.i .i64],false⟩] 17179869084 (zS [eD 8 7 6] (zQ (zC 8 .skip (.exit 0)) (zQ (.join [] 8589934108 (some [⟨2,[.b],false⟩]) (.block 1 (zS [ai 9 7,Ki 10 5 7 5 6 6,zHy 4 1000000005,ai 3 9,df 4 4 11] (zQ (.join [⟨32,[.b],false⟩] 8589930496 none (zR [bF 12 4 0,Tm 14 4 1,tK 17 13 16,ai 18 17,iJ 19 6 4 5 6,Ov 48 20 3 21 21 6,qc 22 21 6 18,eZ 25 0 12,eZ 26 3 12,[o2 27 (.res 25 none (some (.t 26))) 12 false],EJ 28 12 4 0,yK 49 27 29 30 30 12,zIi 31 30 0 12,tC 24 31 32])) (zC 32 (zS [aZ 2] .ret) .skip))))) (zR [yI 33 7,ai 7 33])))))))) (zS [ai 34 0,je 35 34,zAy 36 35 80,ai 2 36] .ret)))
def Yn:aI:=⟨[.rd false Ct6],(.one false [.d])⟩
def Mc:aH:=aA [(48,lm),(49,L_)]
def Me (n:Nat):(List nL)->Option ((Bool) × Unit):=aC n Mc Ma [XI] [.b] [] [2] .no
def Mf:=Me BIG
def Yo:TSp:=⟨Yn,[XI],[.b],[],Ou.j .no,Mf⟩
theorem akj:aM PG Mc 61 Yn (Ma.ht 37) .no=some (Ma.wc Mc,[2]):=by kernel_rfl
theorem ahC:Yo.Ok PG 61:=aN (ae jW (ae Uy (aj PG))) akj (by kernel_rfl)
theorem akk (n) (a0):Me n a0 =
 (aJ n (X:=Int) (B:=(Unit) ⊕ (Bool)) (fun self1 x0=>
  bif decide (x0<(a0.length:Int)) then
   (bnd a0.length x0 fun n2=>
    a0[n2]?.bind fun y3=>
    (bif !decide (y3.1=y3.2.1) then
     some true
     else (fq (y3.2.2.2.2.2,(1:Int),(3:Int))).bind fun r4=>
     bif !r4.1 then
      some true
     else bif decide (0<=x0) then
      bif decide (0<=(Int.toNat x0)/\(Int.toNat x0)<=a0.length) then
       (Bj (List.take ((Int.toNat x0)-0) (List.drop 0 a0),y3.1)).bind fun r5=>
       some (decide ((0:Int)<=r5.1))
      else none
     else none:Option (Bool)).bind fun x6=>
    bif x6 then
     some (Sum.inr false)
    else some (Sum.inl ()):Option ((Unit) ⊕ (Bool))).bind fun y=>match y with
   | .inl x7=>
    self1 (IntKind.wrap .i64 (x0+(1:Int)))
   | .inr x7=>
    some (Sum.inr x7)
  else some (Sum.inl ())) (0:Int):Option ((Unit) ⊕ (Bool))).bind fun y=>match y with
 | .inl x8=>
  some (decide ((a0.length:Int)<=(80:Int)),())
 | .inr x8=>
  some (x8,()):=by kernel_rfl
def Mg:TC:=
 (zS [iK 1 0] (zS [d_ 4,Jk 5 1 5 4 4,zHs 3 1000000004,df 3 3 5] (zQ (.join [⟨2,[.b],false⟩] 68719476676 none (zR [d_ 6,Jk 7 1 0 6 4,[o1 8 (.build fI [])],zHt 9 7 8,qf 10 9 4 1 4 4,Oz 13 12 4,kS 10 13 14,tN 16 9 3 0 9,Oz 18 17 9,kS 15 18 19,xe 21 14 3 1,Oz 23 22 14,kS 20 23 24,xe 26 19 3 2,zEq 28 27 19,Oz 29 28 19,kS 25 29 30,xe 32 25 3 3,Oz 34 33 25,kU 31 34 35 2])) .ret)))
def Yp:aI:=⟨[.rd true Ct4],(.one false [.d])⟩
def Mh:aH:=aA []
def Mi (n:Nat):Zt7->Option ((Bool) × Unit):=aC n Mh Mg [Kc] [.b] [] [2] .no
def Mj:=Mi BIG
def Yq:TSp:=⟨Yp,[Kc],[.b],[],Ou.j .no,Mj⟩
theorem akl:aM PG Mh 145 Yp (Mg.ht 36) .no=some (Mg.wc Mh,[2]):=by kernel_rfl
theorem ahD:Yq.Ok PG 145:=aN (aj PG) akl (by kernel_rfl)
theorem akm (n) (a0):Mi n a0 = (bif (decide (a0.1=(0:Int))&&(decide (a0.2.1=(0:Int))&&(decide (a0.2.2.1=(0:Int))&&(decide (a0.2.2.2.1=(0:Int))&&true)))) then bif decide (a0.2.2.2.2.1=(0:Int)) then bif decide (a0.2.2.2.2.2.1=(0:Int)) then bif decide (a0.2.2.2.2.2.2.1=(0:Int)) then bif decide ((a0.2.2.2.2.2.2.2.1.length:Int)=(0:Int)) then some (decide (a0.2.2.2.2.2.2.2.2=(0:Int))) else some false else some false else some false else some false else some false:Option (Bool)).bind fun x0=> some (x0,()):=by kernel_rfl
def Mk:TC:=
 (zS [bW 2 0,iK 3 1] (zS [fK 7 2 0 7,tH 9 8,ai 5 9] (zS [bD 6] (zQ (.join [⟨6,[.i .i64],false⟩,⟨5,[.i .i64],false⟩] 64608 none (zS [bF 10 3 1,tJ 12 11 4] (zC 12 (zR [OO 13 2 3,kg 6 1,ai 5 15]) .skip))) (zQ (.seq (.join [⟨36,[.b],false⟩] 137438887936 none (zR [bF 16 3 1,nH 18 48 17 4,kI 19 18,iJ 21 4 3 2 4,iJ 23 4 2 0 4,zEf 25 24 4,zEg 48 22 0 25 26 26 4,qc 27 26 4 20,EJ 30 13 3 3,eZ 32 6 13,eZ 33 5 13,[⟨false,[],[],.call 1 48 [.t 31,.t 32,.t 33] .no,[34],(some 34),some (13,false)⟩],qN 35 34 13 29])) (zC 36 (zS [gH 4] .ret) .skip)) (zQ (.join [⟨4,[.b],false⟩] 4503462188417040 none (zR [kT 37 3 2 3 3,mI 41 38 40,qf 42 41 5 3 1 5,[o2 45 (.data (.bin .eql) [.t 44,kD 1]) 5 true],eQ 46 45 5,iJ 47 9 3 1 9,[o2 49 (.data (.bin .eql) [.t 48,kD 2]) 9 false,⟨false,[],[],.pick 46 (.c (.bool true)) (.t 49),[50],(some 50),some (5,true)⟩],kU 42 50 51 4])) .ret))))))
def Yr:aI:=⟨[.rd true l6,.rd true [.d,.d,.d,.d]],(.one false [.d])⟩
def Ml:aH:=aA [(48,lm)]
def Mm (n:Nat):dR × nM->Option ((Bool) × Unit):=aC n Ml Mk [bC,fI] [.b] [] [4] .no
def Mo:=Mm BIG
def Yt:TSp:=⟨Yr,[bC,fI],[.b],[],Ou.j .no,Mo⟩
theorem akn:aM PG Ml 134 Yr (Mk.ht 52) .no=some (Mk.wc Ml,[4]):=by kernel_rfl
theorem ahE:Yt.Ok PG 134:=aN (ae jW (aj PG)) akn (by kernel_rfl)
theorem ako (n) (a0) (a1):Mm n (a0,a1) = (bif decide (a1.2.1=(4:Int)) then some ((1:Int),(a0.2.2.2.1.length:Int)) else some ((0:Int),IntKind.wrap .i64 (a0.1-(1:Int))):Option aF).bind fun x0=> ((fq (a1.2.1,(1:Int),(4:Int))).bind fun r1=> bif !r1.1 then some true else (fq (a1.2.2.1,(0:Int),IntKind.wrap .i64 (a0.1-(1:Int)))).bind fun r2=> bif !r2.1 then some true else (fq (a1.2.2.2,x0.1,x0.2)).bind fun r3=> some !r3.1:Option (Bool)).bind fun x4=> bif x4 then some (true,()) else (bif decide (a1.2.2.1=a1.2.2.2) then bif decide (a1.2.1=(1:Int)) then some true else some (decide (a1.2.1=(2:Int))) else some false:Option (Bool)).bind fun x5=> some (x5,()):=by kernel_rfl
def HZ:TC:=
 (zS [iK 3 1] (zQ (.seq (.join [⟨30,[.b],false⟩] 2147483616 none (zR [ai 5 0,nH 6 48 5 12,iH 7 6,ai 8 7,vW 9 3,w9 10 3 0 9 3,Ov 48 10 100000 11 11 3,qc 12 11 3 8,eZ 15 0 9,iJ 16 9 3 2 9,yK 144 15 17 18 18 9,qc 19 18 9 14,EJ 22 16 3 3,[o2 24 (.data (.bin .neq) [.t 23,kD 0]) 16 false],eZ 25 24 16,xe 26 20 3 1,[o2 28 (.data (.bin .neq) [.t 27,kD 3]) 20 true],AO 25 28 29 29 16 21])) (zC 30 (zS [aZ 4] .ret) .skip)) (zQ (.join [] 576460750155939856 (some [⟨4,[.b],false⟩]) (zS [bF 31 3 1] (.block 0 (zQ (.join [⟨33,[.b],false⟩] 60129542144 none (zS [Kl 34 32 1] (zC 33 .skip (zR [Kl 35 32 2])))) (zC 33 (zS [OO 36 3 2,jD 39 38 1 4] .ret) (zS [jD 41 32 3 40] (zC 40 (zQ (.join [⟨4,[.b],false⟩] 9002801208229904 none (zR [OO 42 3 2,tJ 45 44 0,qf 46 45 4 3 3 4,eQ 49 0 4,zLC 50 49 4 48 48 4,kU 46 51 52 4])) .ret) (zS [jD 54 32 4 53] (zC 53 (zS [OO 55 3 2,SS 58 57 0,ai 4 58] .ret) .skip))))))))) (zS [aZ 4] .ret))))
def Uz:aI:=⟨[.rd false [.d],.rd true EC],(.one false [.d])⟩
def H5:aH:=aA [(48,lm),(144,sw)]
def H6 (n:Nat):Int × lU->Option ((Bool) × Unit):=aC n H5 HZ [[.i .i64],eX] [.b] [] [4] .no
def xM:=H6 BIG
def H7:TSp:=⟨Uz,[[.i .i64],eX],[.b],[],Ou.j .no,xM⟩
theorem ahF:aM PG H5 64 Uz (HZ.ht 59) .no=some (HZ.wc H5,[4]):=by kernel_rfl
theorem Pv:H7.Ok PG 64:=aN (ae jW (ae vz (aj PG))) ahF (by kernel_rfl)
theorem ahG (n) (a0) (a1):H6 n (a0,a1) = ((fq (a0,(1:Int),(12:Int))).bind fun r0=> bif !r0.1 then some true else (fq (a1.1,(1:Int),(100000:Int))).bind fun r1=> bif !r1.1 then some true else (nC (a0,a1.2.2.1)).bind fun r2=> bif !r2.1 then some true else bif !decide (a1.2.2.2=(0:Int)) then some (!decide (a1.2.1=(3:Int))) else some false:Option (Bool)).bind fun x3=> bif x3 then some (false,()) else ((bif decide (a1.2.1=(1:Int)) then some true else some (decide (a1.2.1=(2:Int))):Option (Bool)).bind fun x4=> bif x4 then some (Sum.inr (decide ((a1.2.2.1.length:Int)=(1:Int)))) else bif decide (a1.2.1=(3:Int)) then (bif decide ((a1.2.2.1.length:Int)=(0:Int)) then (fq (a1.2.2.2,(0:Int),IntKind.wrap .i64 (a0-(1:Int)))).bind fun r5=> some r5.1 else some false:Option (Bool)).bind fun x6=> some (Sum.inr x6) else bif decide (a1.2.1=(4:Int)) then some (Sum.inr (decide ((0:Int)<(a1.2.2.1.length:Int)))) else some (Sum.inl ()):Option ((Unit) ⊕ (Bool))).bind fun y=>match y with | .inl x7=> some (false,()) | .inr x7=> some (x7,()):=by kernel_rfl
def Mq:TC:=
 (zS [iK 1 0] (zS [d_ 5,Jk 6 1 5 5 9,zHv 3 1000000004,df 3 3 6] (zQ (zS [dw 7 3 9,dX 8 145 7] (zC 8 (zS [gH 2] .ret) .skip)) (zS [d_ 9,Jk 10 3 0 9 4,zIg 4 1000000005,df 4 4 10] (zQ (.seq (.join [⟨24,[.b],false⟩] 33552384 none (zR [bF 11 4 0,nH 13 48 12 100000,kI 14 13,iJ 16 4 4 1 4,[o2 18 (.data (.bin .eql) [.t 17,kD 3]) 4 false],tC 15 18 19,ai 20 19,AB 21 1 15 9,OG 22 4 4 9 134 21 9,tC 20 23 24])) (zC 24 (zS [aZ 2] .ret) .skip)) (zQ (.join [⟨2,[.b],false⟩] 1152921504573292548 none (zR [kT 25 3 4 1 3,je 29 28,zHu 30 48 26 1 29,qf 31 30 6 1 0 6,ko 34 6,zGj 35 3 5 34 4 6,kR 64 33 35 36 36 6,kS 31 36 37,Ti 39 13 3 5,Kj 42 13 1 4 3 4,zDn 46 45 13,mH 47 43 46 13,w_ 48 43 1 47 13,zHd 49 48 13,Tq 50 41 49 13 38,Kj 53 27 1 14 4 0,kR 49 54 56 57 57 27,zAi 58 57 0 27,kU 52 58 59 2])) .ret))))))
def Yu:aI:=⟨[.rd true l6],(.one false [.d])⟩
def Mr:aH:=aA [(145,Yq),(48,lm),(134,Yt),(64,H7),(49,L_)]
def Ms (n:Nat):dR->Option ((Bool) × Unit):=aC n Mr Mq [bC] [.b] [] [2] .no
def Mt:=Ms BIG
def Yv:TSp:=⟨Yu,[bC],[.b],[],Ou.j .no,Mt⟩
theorem akp:aM PG Mr 62 Yu (Mq.ht 60) .no=some (Mq.wc Mr,[2]):=by kernel_rfl
theorem ahH:Yv.Ok PG 62:=aN (ae ahD (ae jW (ae ahE (ae Pv (ae Uy (aj PG)))))) akp (by kernel_rfl)
theorem akq (n) (a0):Ms n a0 = (Mj (a0.2.2.2.2.2.1,a0.2.2.2.2.2.2.1,a0.2.2.2.2.2.2.2.1,a0.2.2.2.2.2.2.2.2.1,a0.2.2.2.2.2.2.2.2.2.1,a0.2.2.2.2.2.2.2.2.2.2.1,a0.2.2.2.2.2.2.2.2.2.2.2.1,a0.2.2.2.2.2.2.2.2.2.2.2.2.1,a0.2.2.2.2.2.2.2.2.2.2.2.2.2.1)).bind fun r0=> bif r0.1 then some (true,()) else ((fq (a0.2.2.2.2.2.1,(1:Int),(100000:Int))).bind fun r1=> bif !r1.1 then some true else bif decide (a0.2.2.2.2.2.2.1=(3:Int)) then some true else (Mo (a0,(a0.2.2.2.2.2.1,a0.2.2.2.2.2.2.1,a0.2.2.2.2.2.2.2.1,a0.2.2.2.2.2.2.2.2.1))).bind fun r2=> some r2.1:Option (Bool)).bind fun x3=> bif x3 then some (false,()) else ((fq (a0.2.2.2.2.2.2.2.2.2.1,(1:Int),(a0.2.2.2.1.length:Int))).bind fun r4=> bif r4.1 then (xM (a0.1,(a0.2.2.2.2.2.2.2.2.2.2.1,a0.2.2.2.2.2.2.2.2.2.2.2.1,a0.2.2.2.2.2.2.2.2.2.2.2.2.1,a0.2.2.2.2.2.2.2.2.2.2.2.2.2.1))).bind fun r5=> bif r5.1 then bnd a0.2.2.2.2.1.length (IntKind.wrap .i64 (a0.2.2.2.2.2.2.2.2.2.1-(1:Int))) fun n6=> a0.2.2.2.2.1[n6]?.bind fun y7=> bif decide (a0.2.2.2.2.2.2.2.2.2.2.1=(IntKind.wrap .i64 (y7+(1:Int)))) then (Bj (a0.2.2.2.2.2.2.2.2.2.2.2.2.2.2,a0.2.2.2.2.2.1)).bind fun r8=> some (decide (r8.1<(0:Int))) else some false else some false else some false:Option (Bool)).bind fun x9=> some (x9,()):=by kernel_rfl
def Mv:TC:=
 (zS [iK 1 0] (zQ (.seq (.join [⟨24,[.b],false⟩] 33554400 none (zR [fK 5 1 0 5,nH 7 48 6 12,iH 8 7,ai 9 8,iJ 10 4 1 3 4,zEu 12 11 4,Ov 48 12 3 13 13 4,qc 14 13 4 9,zLD 17 11 1 4,zLD 20 11 1 3,EM 23 19 22 11 16])) (zC 24 (zS [aZ 2] .ret) .skip)) (zQ (.join [] 281474943156252 (some [⟨2,[.b],false⟩]) (zS [bF 25 1 3,jR 27 26] (.block 0 (.loop [⟨28,[.i .i64],false⟩] 281474708275228 (zS [eD 29 28 27] (zQ (zC 29 .skip (.exit 0)) (zQ (.join [] 140736414613532 (some [⟨2,[.b],false⟩]) (.block 1 (zS [ai 30 28,ku 31 26 28 1,ai 3 30,ai 4 32] (zQ (.join [⟨46,[.b],false⟩] 140728898420736 none (zR [AP 33 1 0 4,fJ 36 59 34 35,kI 37 36,iJ 39 5 1 4 5,Tk 41 3 5 40 5,Td 43 40 1 42 5,zHx 48 43 0 99991 44 44 5,qN 45 44 5 38])) (zC 46 (zS [aZ 2] .ret) .skip))))) (zR [l7 47 28])))))))) (zQ (.join [⟨2,[.b],false⟩] 576179277326712836 none (zR [vY 48 1 15 60,qf 50 49 2 1 14 2,zEv 61 52 53 53 2,kS 50 53 54,zHw 56 1 15 7,zEv 62 56 57 57 7,kU 55 57 58 2])) .ret))))
def Yw:aI:=⟨[.rd true l6],(.one false [.d])⟩
def Mw:aH:=aA [(48,lm),(59,Dq),(60,abH),(61,Yo),(62,Yv)]
def Mx (n:Nat):dR->Option ((Bool) × Unit):=aC n Mw Mv [bC] [.b] [] [2] .no
def MB:=Mx BIG
def Yx:TSp:=⟨Yw,[bC],[.b],[],Ou.j .no,MB⟩
theorem akr:aM PG Mw 12 Yw (Mv.ht 59) .no=some (Mv.wc Mw,[2]):=by kernel_rfl
theorem ahI:Yx.Ok PG 12:=aN (ae jW (ae LU (ae akg (ae ahC (ae ahH (aj PG)))))) akr (by kernel_rfl)
theorem aks (n) (a0):Mx n a0 =
 ((fq (a0.1,(1:Int),(12:Int))).bind fun r0=>
  bif !r0.1 then
   some true
  else (fq ((a0.2.2.2.1.length:Int),(1:Int),(3:Int))).bind fun r1=>
  bif !r1.1 then
   some true
  else some (!decide ((a0.2.2.2.2.1.length:Int)=(a0.2.2.2.1.length:Int))):Option (Bool)).bind fun x2=>
 bif x2 then
  some (false,())
 else (aJ n (X:=Int) (B:=(Unit) ⊕ (Bool)) (fun self4 x3=>
  bif decide (x3<(a0.2.2.2.1.length:Int)) then
   (bnd a0.2.2.2.1.length x3 fun n5=>
    a0.2.2.2.1[n5]?.bind fun y6=>
    ((vw (a0.1,y6)).bind fun r7=>
     bif !r7.1 then
      some true
     else bnd a0.2.2.2.2.1.length x3 fun n8=>
     a0.2.2.2.2.1[n8]?.bind fun y9=>
     (fq (y9,(0:Int),(99991:Int))).bind fun r10=>
     some !r10.1:Option (Bool)).bind fun x11=>
    bif x11 then
     some (Sum.inr false)
    else some (Sum.inl ()):Option ((Unit) ⊕ (Bool))).bind fun y=>match y with
   | .inl x12=>
    self4 (IntKind.wrap .i64 (x3+(1:Int)))
   | .inr x12=>
    some (Sum.inr x12)
  else some (Sum.inl ())) (0:Int):Option ((Unit) ⊕ (Bool))).bind fun y=>match y with
 | .inl x13=>
  ((Q6 a0).bind fun r14=>
   bif r14.1 then
    (Mf a0.2.2.2.2.2.2.2.2.2.2.2.2.2.2).bind fun r15=>
    bif r15.1 then
     (Mt a0).bind fun r16=>
     some r16.1
    else some false
   else some false:Option (Bool)).bind fun x17=>
  some (x17,())
 | .inr x13=>
  some (x13,()):=by kernel_rfl
def Dr:TC:=
 (zS [iK 3 1] (zQ (.join [⟨4,[.b],false⟩] 16777200 none (zR [ai 5 0,nH 6 48 5 12,ai 7 6,ko 8 2,tF 9 3 0 8 2,zGc 48 9 10 10 2,kS 7 10 11,eQ 13 0 7,tN 14 7 3 2 7,kR 144 13 15 16 16 7,kS 12 16 17,eQ 19 0 13,xe 20 13 3 3,kR 59 19 21 22 22 13,kU 18 22 23 4])) .ret))
def Pw:aI:=⟨[.rd false [.d],.rd true Az],(.one false [.d])⟩
def Dt:aH:=aA [(48,lm),(144,sw),(59,Dq)]
def Du (n:Nat):Int × iC->Option ((Bool) × Unit):=aC n Dt Dr [[.i .i64],fQ] [.b] [] [4] .no
def vC:=Du BIG
def Dv:TSp:=⟨Pw,[[.i .i64],fQ],[.b],[],Ou.j .no,vC⟩
theorem adH:aM PG Dt 71 Pw (Dr.ht 24) .no=some (Dr.wc Dt,[4]):=by kernel_rfl
theorem MC:Dv.Ok PG 71:=aN (ae jW (ae vz (ae LU (aj PG)))) adH (by kernel_rfl)
theorem adI (n) (a0) (a1):Du n (a0,a1) = ((fq (a0,(1:Int),(12:Int))).bind fun r0=> bif r0.1 then (fq (a1.1,(1:Int),(100000:Int))).bind fun r1=> bif r1.1 then (nC (a0,a1.2.2.1)).bind fun r2=> bif r2.1 then (vw (a0,a1.2.2.2)).bind fun r3=> some r3.1 else some false else some false else some false:Option (Bool)).bind fun x4=> some (x4,()):=by kernel_rfl
def Wl:TC:=
 (zS [iK 1 0] (zS [d_ 3,yJ 4 3,EE 5 1 9 4,zDf 6 5 0,ai 2 6] .ret))
def aft:aI:=⟨[.rd true l6],(.one false [.d])⟩
def Wm:aH:=aA []
def afu (n:Nat):dR->Option ((Bool) × Unit):=aC n Wm Wl [bC] [.b] [] [2] .no
def Wn:=afu BIG
def afv:TSp:=⟨aft,[bC],[.b],[],Ou.j .no,Wn⟩
theorem aow:aM PG Wm 13 aft (Wl.ht 7) .no=some (Wl.wc Wm,[2]):=by kernel_rfl
theorem amf:afv.Ok PG 13:=aN (aj PG) aow (by kernel_rfl)
theorem aox (n) (a0):afu n a0 = some (!decide (a0.2.2.2.2.2.2.2.2.2.1=(0:Int)),()):=by kernel_rfl
def Q7:TC:=
 (zS [bD 2] (zQ (zS [ai 3 0] (zC 3 (zS [kg 2 1] .ret) .skip)) (zS [kg 2 2] .ret)))
def abI:aI:=⟨[.rd false [.d]],(.one false [.d])⟩
def Q8:aH:=aA []
def Q9 (n:Nat):Bool->Option ((Int) × Unit):=aC n Q8 Q7 [[.b]] [.i .i64] [] [2] .no
def Q_:=Q9 BIG
def abJ:TSp:=⟨abI,[[.b]],[.i .i64],[],Ou.j .no,Q_⟩
theorem amg:aM PG Q8 74 abI (Q7.ht 4) .no=some (Q7.wc Q8,[2]):=by kernel_rfl
theorem akt:abJ.Ok PG 74:=aN (aj PG) amg (by kernel_rfl)
theorem amh (n) (a0):Q9 n a0 = bif a0 then some ((1:Int),()) else some ((2:Int),()):=by kernel_rfl
def Dw:TC:=
 (zS [bW 4 1,bD 6] (zS [bN 7,bN 8,ai 15 2,kQ 9 8,yJ 10 9,zBr 11 0 14 10,bF 12 4 0,dw 14 4 4,zHz 16 13 14 15,zHA 17 16,zBs 11 11 17 18 11 11 0 18,kr 19 7,zBt 0 18 11 0 14 20 18] (zS [kg 6 1] .ret)))
def Px:aI:=⟨[.mp l6,.rd true [.d,.d,.d,.d],.rd false [.d]],(.one false [.d])⟩
def Dx:aH:=aA []
def Dy (n:Nat):dR × nM × Int->Option ((Int) × Int × List Int × List aF × List (List Int) × List Int × Int × Int × Int × Int × Int × Int × Int × List aF × Int × List nL):=aC n Dx Dw [bC,fI,[.i .i64]] [.i .i64] bC [6] (.mp 0)
def jZ:=Dy BIG
def Dz:TSp:=⟨Px,[bC,fI,[.i .i64]],[.i .i64],bC,Ou.j (.mp 0),jZ⟩
theorem adJ:aM PG Dx 73 Px (Dw.ht 21) (.mp 0)=some (Dw.wc Dx,[6]):=by kernel_rfl
theorem ME:Dz.Ok PG 73:=aN (aj PG) adJ (by kernel_rfl)
theorem adK (n) (a0) (a1) (a2):Dy n (a0,a1,a2) = bif decide (a0.2.2.2.2.2.2.2.2.2.2.2.2.2.2.length+([(a1.1,a1.1,a1.2.1,a1.2.2.1,a1.2.2.2,a2)]).length<=4294967296) then some ((1:Int),(a0.1,a0.2.1,a0.2.2.1,a0.2.2.2.1,a0.2.2.2.2.1,a0.2.2.2.2.2.1,a0.2.2.2.2.2.2.1,a0.2.2.2.2.2.2.2.1,a0.2.2.2.2.2.2.2.2.1,a0.2.2.2.2.2.2.2.2.2.1,a0.2.2.2.2.2.2.2.2.2.2.1,a0.2.2.2.2.2.2.2.2.2.2.2.1,a0.2.2.2.2.2.2.2.2.2.2.2.2.1,a0.2.2.2.2.2.2.2.2.2.2.2.2.2.1,a0.2.2.2.2.2.2.2.2.2.2.2.2.2.2++([(a1.1,a1.1,a1.2.1,a1.2.2.1,a1.2.2.2,a2)]))) else none:=by kernel_rfl
def H8:TC:=
 (zS [iK 3 1] (zQ (.join [] 131024 (some [⟨4,[.b],false⟩]) (zS [ai 7 0,jR 8 7] (.block 0 (.loop [⟨9,[.i .i64],false⟩] 130640 (zS [eD 10 9 8] (zQ (zC 10 .skip (.exit 0)) (zQ (.block 1 (zS [Ki 11 7 9 7 2 2,lG 6 1000000007,df 6 6 12] (zS [dw 13 6 2,dw 14 3 2,[o1 15 (.eqA [.i,.i] (.t 13) (.t 14) false)]] (zC 15 (zS [gH 4] .ret) .skip)))) (zR [yI 16 9,ai 9 16])))))))) (zS [aZ 4] .ret)))
def UA:aI:=⟨[.rd false fE,.rd true [.d,.d]],(.one false [.d])⟩
def H9:aH:=aA []
def H_ (n:Nat):(List aF) × aF->Option ((Bool) × Unit):=aC n H9 H8 [[.sl [.i .i64,.i .i64]],[.i .i64,.i .i64]] [.b] [] [4] .no
def xN:=H_ BIG
def Ia:TSp:=⟨UA,[[.sl [.i .i64,.i .i64]],[.i .i64,.i .i64]],[.b],[],Ou.j .no,xN⟩
theorem ahJ:aM PG H9 155 UA (H8.ht 17) .no=some (H8.wc H9,[4]):=by kernel_rfl
theorem Py:Ia.Ok PG 155:=aN (aj PG) ahJ (by kernel_rfl)
theorem ahK (n) (a0) (a1):H_ n (a0,a1) = (aJ n (X:=Int) (B:=(Unit) ⊕ (Bool)) (fun self1 x0=> bif decide (x0<(a0.length:Int)) then bnd a0.length x0 fun n2=> a0[n2]?.bind fun y3=> bif (decide (y3.1=a1.1)&&(decide (y3.2=a1.2)&&true)) then some (Sum.inr true) else self1 (IntKind.wrap .i64 (x0+(1:Int))) else some (Sum.inl ())) (0:Int):Option ((Unit) ⊕ (Bool))).bind fun y=>match y with | .inl x4=> some (false,()) | .inr x4=> some (x4,()):=by kernel_rfl
def DC:TC:=
 (zS [bW 3 1,vX 4] (zS [bD 5] (zQ (.join [⟨5,[.i .i64],false⟩] 1048544 none (.block 0 (.loop [⟨5,[.i .i64],false⟩] 1048544 (zQ (.seq (.join [⟨17,[.b],false⟩] 262080 none (zR [cB 6 5 0,je 8 7,eD 9 6 8,Jq 10 9 0 4,eQ 12 5 4,mH 13 11 12 4,zDx 14 11 2 13 2 4,zHw 15 3 2 4,kR 192 14 15 16 16 4,lF 10 16 17])) (zC 17 .skip (.exit 0))) (.block 1 (zR [dZ 18 5 5])))))) (zS [cB 20 0 5,cB 27 0 5,[o1 22 (.res 20 none (some (.t 21)))],zJa 23 22,dw 24 3 2,Kg 25 24,vU 23 25 26 23,[o1 29 (.res 27 (some (.t 28)) none)],Kh 26 29 30 26 4] .ret))))
def Pz:aI:=⟨[.rd false fE,.rd true [.d,.d]],(.one false fE)⟩
def DD:aH:=aA [(192,Hy)]
def DI (n:Nat):(List aF) × aF->Option ((List aF) × Unit):=aC n DD DC [[.sl [.i .i64,.i .i64]],[.i .i64,.i .i64]] [.sl [.i .i64,.i .i64]] [] [4] .no
def vD:=DI BIG
def DJ:TSp:=⟨Pz,[[.sl [.i .i64,.i .i64]],[.i .i64,.i .i64]],[.sl [.i .i64,.i .i64]],[],Ou.j .no,vD⟩
theorem adL:aM PG DD 156 Pz (DC.ht 31) .no=some (DC.wc DD,[4]):=by kernel_rfl
theorem MF:DJ.Ok PG 156:=aN (ae LZ (aj PG)) adL (by kernel_rfl)
theorem adM (n) (a0) (a1):DI n (a0,a1) = (aJ n (X:=Int) (B:=Int) (fun self1 x0=> (bif decide (x0<(a0.length:Int)) then bnd a0.length x0 fun n2=> a0[n2]?.bind fun y3=> (uL (y3,a1)).bind fun r4=> some r4.1 else some false:Option (Bool)).bind fun x5=> bif x5 then self1 (IntKind.wrap .i64 (x0+(1:Int))) else some x0) (0:Int):Option (Int)).bind fun x6=> bif decide (0<=x6) then bif decide (0<=(Int.toNat x6)/\(Int.toNat x6)<=a0.length) then bif decide ((List.take ((Int.toNat x6)-0) (List.drop 0 a0)).length<=4294967296) then bif decide ((List.take ((Int.toNat x6)-0) (List.drop 0 a0)).length+[a1].length<=4294967296) then bif decide (0<=x6) then bif decide ((Int.toNat x6)<=a0.length/\a0.length<=a0.length) then bif decide (((List.take ((Int.toNat x6)-0) (List.drop 0 a0))++[a1]).length+(List.take (a0.length-(Int.toNat x6)) (List.drop (Int.toNat x6) a0)).length<=4294967296) then some (((List.take ((Int.toNat x6)-0) (List.drop 0 a0))++[a1])++(List.take (a0.length-(Int.toNat x6)) (List.drop (Int.toNat x6) a0)),()) else none else none else none else none else none else none else none:=by kernel_rfl
def Wo:TC:=
 (zS [aZ 6] (zQ (.join [⟨6,[.b],false⟩] 1048512 none (zR [cB 7 1 0,je 9 8,tH 10 9,XN 11 48 7 10,Jq 12 11 0 5,eQ 14 1 5,mH 15 13 14 5,w_ 16 13 1 15 5,eQ 17 2 5,XM 18 16 17 5,kU 12 18 19 6])) .ret))
def afw:aI:=⟨[.rd false dF,.rd false [.d],.rd false [.d]],(.one false [.d])⟩
def Wp:aH:=aA [(48,lm)]
def Wq (n:Nat):List Int × Int × Int->Option ((Bool) × Unit):=aC n Wp Wo [[.sl [.i .i64]],[.i .i64],[.i .i64]] [.b] [] [6] .no
def NT:=Wq BIG
def afx:TSp:=⟨afw,[[.sl [.i .i64]],[.i .i64],[.i .i64]],[.b],[],Ou.j .no,NT⟩
theorem aoy:aM PG Wp 200 afw (Wo.ht 20) .no=some (Wo.wc Wp,[6]):=by kernel_rfl
theorem ami:afx.Ok PG 200:=aN (ae jW (aj PG)) aoy (by kernel_rfl)
theorem aoz (n) (a0) (a1) (a2):Wq n (a0,a1,a2) = ((fq (a1,(0:Int),IntKind.wrap .i64 ((a0.length:Int)-(1:Int)))).bind fun r0=> bif r0.1 then bnd a0.length a1 fun n1=> a0[n1]?.bind fun y2=> some (decide (y2=a2)) else some false:Option (Bool)).bind fun x3=> some (x3,()):=by kernel_rfl
def MG:TC:=
 (zS [vX 6] (zS [vX 7] (zQ (.join [⟨7,[.sl [.i .i64,.i .i64]],false⟩] 8589934208 none (zS [ai 10 1,jR 11 10] (.block 0 (.loop [⟨7,[.sl [.i .i64,.i .i64]],false⟩,⟨12,[.i .i64],false⟩] 8589931136 (zS [eD 13 12 11] (zQ (zC 13 .skip (.exit 0)) (zQ (.join [⟨7,[.sl [.i .i64,.i .i64]],false⟩] 4294951552 none (.block 1 (zS [jq 14 10 12 2 2,lG 9 1000000010,df 9 9 15] (zQ (.join [⟨27,[.b],false⟩] 268369920 none (zR [OB 16 0 9 0,ai 19 2,Ox 20 200 16 18 19,Jq 21 20 0 5,tN 23 5 9 1 5,eQ 25 2 5,[⟨false,[],[],.call 1 200 [.t 22,.t 24,.t 25] .no,[26],(some 26),some (5,true)⟩],lF 21 26 27])) (zC 27 (zR [bV 7 28 7,dw 29 9 2,EN 30 29 28 28 7]) .skip))))) (zR [l7 32 12])))))))) (zS [qd 7 33 7 6] .ret))))
def Yy:aI:=⟨[.rd false dF,.rd false fE,.rd false [.d]],(.one false fE)⟩
def MH:aH:=aA [(200,afx)]
def MI (n:Nat):List Int × (List aF) × Int->Option ((List aF) × Unit):=aC n MH MG [[.sl [.i .i64]],[.sl [.i .i64,.i .i64]],[.i .i64]] [.sl [.i .i64,.i .i64]] [] [6] .no
def MJ:=MI BIG
def Yz:TSp:=⟨Yy,[[.sl [.i .i64]],[.sl [.i .i64,.i .i64]],[.i .i64]],[.sl [.i .i64,.i .i64]],[],Ou.j .no,MJ⟩
theorem aku:aM PG MH 157 Yy (MG.ht 34) .no=some (MG.wc MH,[6]):=by kernel_rfl
theorem ahL:Yz.Ok PG 157:=aN (ae ami (aj PG)) aku (by kernel_rfl)
theorem akv (n) (a0) (a1) (a2):MI n (a0,a1,a2) = (aJ n (X:=(List aF) × Int) (B:=(List aF)) (fun self1 x0=> bif decide (x0.2<(a1.length:Int)) then (bnd a1.length x0.2 fun n2=> a1[n2]?.bind fun y3=> ((NT (a0,y3.1,a2)).bind fun r4=> bif r4.1 then (NT (a0,y3.2,a2)).bind fun r5=> some r5.1 else some false:Option (Bool)).bind fun x6=> bif x6 then bif decide (x0.1.length+[y3].length<=4294967296) then some (x0.1++[y3]) else none else some x0.1:Option ((List aF))).bind fun x7=> self1 (x7,IntKind.wrap .i64 (x0.2+(1:Int))) else some x0.1) ([],(0:Int)):Option ((List aF))).bind fun x8=> some (x8,()):=by kernel_rfl
def uM:TC:=
 (zS [bW 3 1,vX 4] (zS [vX 5] (zQ (.join [⟨5,[.sl [.i .i64,.i .i64]],false⟩] 4194208 none (zS [ai 8 0,jR 9 8] (.block 0 (.loop [⟨5,[.sl [.i .i64,.i .i64]],false⟩,⟨10,[.i .i64],false⟩] 4193440 (zS [eD 11 10 9] (zQ (zC 11 .skip (.exit 0)) (zQ (.join [⟨5,[.sl [.i .i64,.i .i64]],false⟩] 2093216 none (.block 1 (zS [Ki 12 8 10 8 2 2,lG 7 1000000008,df 7 7 13] (zS [dw 14 7 2,dw 15 3 2,zEB 16 14 15] (zC 16 (zR [bV 5 17 5,dw 18 7 2,EN 19 18 17 17 5]) .skip))))) (zR [l7 21 10])))))))) (zS [qd 5 22 5 4] .ret))))
def EZ:aI:=⟨[.rd false fE,.rd true [.d,.d]],(.one false fE)⟩
def uN:aH:=aA []
def uO (n:Nat):(List aF) × aF->Option ((List aF) × Unit):=aC n uN uM [[.sl [.i .i64,.i .i64]],[.i .i64,.i .i64]] [.sl [.i .i64,.i .i64]] [] [4] .no
def uP:=uO BIG
def E5:TSp:=⟨EZ,[[.sl [.i .i64,.i .i64]],[.i .i64,.i .i64]],[.sl [.i .i64,.i .i64]],[],Ou.j .no,uP⟩
theorem Ws:aM PG uN 158 EZ (uM.ht 23) .no=some (uM.wc uN,[4]):=by kernel_rfl
theorem UB:E5.Ok PG 158:=aN (aj PG) Ws (by kernel_rfl)
theorem Wt (n) (a0) (a1):uO n (a0,a1) = (aJ n (X:=(List aF) × Int) (B:=(List aF)) (fun self1 x0=> bif decide (x0.2<(a0.length:Int)) then (bnd a0.length x0.2 fun n2=> a0[n2]?.bind fun y3=> bif !(decide (y3.1=a1.1)&&(decide (y3.2=a1.2)&&true)) then bif decide (x0.1.length+[y3].length<=4294967296) then some (x0.1++[y3]) else none else some x0.1:Option ((List aF))).bind fun x4=> self1 (x4,IntKind.wrap .i64 (x0.2+(1:Int))) else some x0.1) ([],(0:Int)):Option ((List aF))).bind fun x5=> some (x5,()):=by kernel_rfl
def wM:TC:=
 (zS [bW 5 1,[o5 (.a (.t 3)) 7 3],bD 8] (zS [bN 9,OA 10 9 0 4,ai 13 2,tH 14 13,OM 15 12 14 0 4 1,yI 17 16,qP 18 7 7 0 17] (zS [bN 19,EP 20 5 4 2,gP 22 7 4,zHC,kr 24 19,zHD 0 23 12 15 0 5 25 23] (zS [kg 8 2] .ret))))
def Jy:aI:=⟨[.mp l6,.rd true [.d,.d,.d,.d],.rd false [.d],.tk true EC],(.one false [.d])⟩
def wN:aH:=aA []
def wO (n:Nat):dR × nM × Int × lU->Option ((Int) × Int × List Int × List aF × List (List Int) × List Int × Int × Int × Int × Int × Int × Int × Int × List aF × Int × List nL):=aC n wN wM [bC,fI,[.i .i64],eX] [.i .i64] bC [8] (.mp 0)
def wP:=wO BIG
def Jz:TSp:=⟨Jy,[bC,fI,[.i .i64],eX],[.i .i64],bC,Ou.j (.mp 0),wP⟩
theorem Y5:aM PG wN 136 Jy (wM.ht 26) (.mp 0)=some (wM.wc wN,[8]):=by kernel_rfl
theorem Wu:Jz.Ok PG 136:=aN (aj PG) Y5 (by kernel_rfl)
theorem Y6 (n) (a0) (a1) (a2) (a3):wO n (a0,a1,a2,a3) = bnd a0.2.2.2.2.1.length (IntKind.wrap .i64 (a2-(1:Int))) fun n0=> a0.2.2.2.2.1[n0]?.bind fun y1=> some ((2:Int),(a0.1,a0.2.1,a0.2.2.1,a0.2.2.2.1,a0.2.2.2.2.1,a1.1,a1.2.1,a1.2.2.1,a1.2.2.2,a2,IntKind.wrap .i64 (y1+(1:Int)),a3.2.1,a3.2.2.1,a3.2.2.2,a0.2.2.2.2.2.2.2.2.2.2.2.2.2.2)):=by kernel_rfl
def pz:TC:=
 (zS [bW 4 1,bD 6] (zQ (.join [⟨0,bC,false⟩] 1073725761 (some [⟨6,[.i .i64],false⟩,⟨0,bC,false⟩]) (zS [ai 14 2,jR 15 14] (.block 0 (.loop [⟨0,bC,false⟩,⟨16,[.i .i64],false⟩] 1073676609 (zS [eD 17 16 15] (zQ (zC 17 .skip (.exit 0)) (zQ (.block 1 (zS [jq 18 14 16 2 2,lG 8 1000000009,df 8 8 19] (zS [Jo 20 0 2,xf 24 8 2 155 23] (zC 25 (zS [bN 26,dw 27 4 4,[⟨false,[],[],.call 2 73 [.t 0,.t 27,kO 3] (.mp 0),[28,0,23],(some 28),none⟩],ai 6 28] .ret) .skip)))) (zR [l7 29 16])))))))) (zQ (.seq (.join [⟨49,[.b],false⟩] 1125898833100800 none (zR [bN 32,bF 30 4 2,Tn 33 32 0 0,tH 36 35,XN 37 48 31 36,kI 38 37,iJ 40 9 4 3 9,[o2 42 (.p0) 9 false],zJb 43 42 9,AC 44 43 9,zJc 45 0 3 44 9,zEu 46 45 9,zEg 48 41 1 46 47 47 9,qN 48 47 9 39])) (zC 49 (zS [bN 50,dw 51 4 4,zHE 73 0 51 3 52 0 52,ai 6 52] .ret) .skip)) (zQ (.join [⟨0,bC,false⟩] 590286803159450911745 none (zS [ai 53 2,jR 54 53] (.block 2 (.loop [⟨0,bC,false⟩,⟨55,[.i .i64],false⟩] 590259781561686688769 (zS [eD 56 55 54] (zQ (zC 56 .skip (.exit 2)) (zQ (.block 3 (zS [jq 57 53 55 2 2,lG 10 1000000011,df 10 10 58] (zR [bN 59,Jo 60 0 2,xf 64 10 2 156 63,kr 66 59,zBt 0 65 63 0 2 67 65]))) (zR [l7 68 55])))))))) (zS [Jo 69 0 1,kT 73 4 2 4 3,qb 77 72 74,XL 0 72 0 1 77 76] (zS [bN 78,bN 82,OA 79 78 0 1,OA 83 82 0 2,bF 86 4 3,Ox 88 157 81 85 87,bV 88 11 88] (zQ (zS [eU 89 11,je 90 89,tJ 91 90 0] (zC 91 (zS [bN 92,dw 93 4 4,[⟨false,[],[],.call 2 73 [.t 0,.t 93,kO 1] (.mp 0),[94,0,77,81,85],(some 94),none⟩],ai 6 94] .ret) .skip)) (zQ (.join [⟨0,bC,false⟩] 2596108815186156682096451392643073 none (zS [eU 95 11,jR 96 95] (.block 4 (.loop [⟨0,bC,false⟩,⟨97,[.i .i64],false⟩] 2595990014196978879939281663565825 (zS [eD 98 97 96] (zQ (zC 98 .skip (.exit 4)) (zQ (.block 5 (zS [Ki 99 95 97 11 2 2,lG 13 1000000014,df 13 13 100] (zR [bN 101,Jo 102 0 2,xf 106 13 2 158 105,kr 108 101,zBt 0 107 105 0 2 109 107]))) (zR [l7 110 97])))))))) (zS [bN 111,dw 112 4 4,bF 113 4 3,zIb 11 115 11 89 95 115,zIc 115 116 115 116,zId 136 0 112 114 116 117 0 116 117,ai 6 117] .ret)))))))))
def zP:aI:=⟨[.mp l6,.rd true [.d,.d,.d,.d],.rd false fE],(.one false [.d])⟩
def pE:aH:=aA [(155,Ia),(73,Dz),(48,lm),(156,DJ),(157,Yz),(158,E5),(136,Jz)]
def pF (n:Nat):dR × nM × (List aF)->Option ((Int) × Int × List Int × List aF × List (List Int) × List Int × Int × Int × Int × Int × Int × Int × Int × List aF × Int × List nL):=aC n pE pz [bC,fI,[.sl [.i .i64,.i .i64]]] [.i .i64] bC [6] (.mp 0)
def pG:=pF BIG
def zU:TSp:=⟨zP,[bC,fI,[.sl [.i .i64,.i .i64]]],[.i .i64],bC,Ou.j (.mp 0),pG⟩
theorem Ra:aM PG pE 75 zP (pz.ht 118) (.mp 0)=some (pz.wc pE,[6]):=by kernel_rfl
theorem Oe:zU.Ok PG 75:=aN (ae Py (ae ME (ae jW (ae MF (ae ahL (ae UB (ae Wu (aj PG)))))))) Ra (by kernel_rfl)
theorem Rb (n) (a0) (a1) (a2):pF n (a0,a1,a2) = (aJ n (X:=dR × Int) (B:=(dR) ⊕ Zt1) (fun self1 x0=> bif decide (x0.2<(a2.length:Int)) then bnd a2.length x0.2 fun n2=> a2[n2]?.bind fun y3=> (xN (x0.1.2.2.1,y3)).bind fun r4=> bif r4.1 then (jZ (x0.1,a1,(3:Int))).bind fun r5=> some (Sum.inr (r5.1,r5.2)) else self1 (x0.1,IntKind.wrap .i64 (x0.2+(1:Int))) else some (Sum.inl x0.1)) (a0,(0:Int)):Option ((dR) ⊕ Zt1)).bind fun y=>match y with | .inl x6=> ((fq (a1.2.2.1,(0:Int),IntKind.wrap .i64 (x6.1-(1:Int)))).bind fun r7=> bif !r7.1 then some true else (fq (a1.2.2.2,(1:Int),(x6.2.2.2.1.length:Int))).bind fun r8=> some !r8.1:Option (Bool)).bind fun x9=> bif x9 then (jZ (x6,a1,(3:Int))).bind fun r10=> some (r10.1,r10.2) else (aJ n (X:=dR × Int) (B:=dR) (fun self12 x11=> bif decide (x11.2<(a2.length:Int)) then bnd a2.length x11.2 fun n13=> a2[n13]?.bind fun y14=> (vD (x11.1.2.2.1,y14)).bind fun r15=> self12 ((x11.1.1,x11.1.2.1,r15.1,x11.1.2.2.2),IntKind.wrap .i64 (x11.2+(1:Int))) else some x11.1) (x6,(0:Int)):Option (dR)).bind fun x16=> bnd x16.2.1.length a1.2.2.1 fun n17=> x16.2.1[n17]?.bind fun y18=> (MJ (x16.2.1.set n17 a1.2.2.2,x16.2.2.1,a1.2.2.2)).bind fun r19=> bif decide ((r19.1.length:Int)=(0:Int)) then (jZ ((x16.1,x16.2.1.set n17 a1.2.2.2,x16.2.2),a1,(1:Int))).bind fun r20=> some (r20.1,r20.2) else (aJ n (X:=dR × Int) (B:=dR) (fun self22 x21=> bif decide (x21.2<(r19.1.length:Int)) then bnd r19.1.length x21.2 fun n23=> r19.1[n23]?.bind fun y24=> (uP (x21.1.2.2.1,y24)).bind fun r25=> self22 ((x21.1.1,x21.1.2.1,r25.1,x21.1.2.2.2),IntKind.wrap .i64 (x21.2+(1:Int))) else some x21.1) ((x16.1,x16.2.1.set n17 a1.2.2.2,x16.2.2),(0:Int)):Option (dR)).bind fun x26=> (wP (x26,a1,a1.2.2.2,((0:Int),(4:Int),r19.1,(0:Int)))).bind fun r27=> some (r27.1,r27.2) | .inr x6=> some (x6.1,x6.2):=by kernel_rfl
def Wv:TC:=
 (zS [bW 3 0,bW 5 2,qM 6 1000000007,bD 7] (zS [vY 11 3 15 47,qM 8 1000000009,dW 8 12 8 12] (zQ (.seq (.join [⟨43,[.b],false⟩] 17592186036224 none (zR [vY 13 3 15 12,kI 15 14,iJ 17 3 3 0 3,OG 19 5 4 3 71 18 3,qc 21 20 3 16,AB 24 3 15 10,XO 13 24 25 25 10,qc 26 25 10 23,eZ 29 1 15,XR 30 15,w9 32 3 9 31 15,EM 33 29 32 15 28,ai 35 34,EJ 36 22 5 0,XR 38 22,AC 40 39 22,w9 41 3 10 40 22,EM 42 37 41 22 35])) (zC 43 (zS [nY 44 8 15 6 6 8,bD 7] .ret) .skip)) (zS [d_ 45,XP 46 8 5 45 9,zHv 9 1000000010,vV 46 9 46 9 46 46 8] (zS [zHB 47,d_ 48,Te 8 47 8 5 48 47] (zS [jr 49 8 4,ai 51 1,tH 52 51,bF 53 5 0,qb 55 50 52,XL 8 50 8 4 55 54] (zS [ai 58 1,jr 56 8 3,tH 59 58,bF 60 5 3,dX 62 72 61,qb 63 57 59,[o4 2 [8,62,45,48,49,55,63,57,56] (.store 8 [(3,1)] 0 (.t 63) (.t 62))]] (zS [bD 10] (zQ (.join [⟨8,bC,false⟩,⟨10,[.i .i64],false⟩] 309484991374600995015230720 none (.block 0 (zS [Tm 68 9 1,zDf 71 70 4,ai 67 71] (zC 67 (zR [Kk 72 9 0 4,bF 74 5 1,dX 76 74 75,zIe 73 8 73 76 77 8 77,ai 10 77]) (zS [Tm 79 9 6,jD 82 81 3 78] (zC 78 (zR [Kk 83 9 0 4,bF 85 5 2,zIe 75 8 84 86 87 8 87,ai 10 87]) (zR [Kk 64 9 0 4,zHE 73 8 65 1 66 8 66,ai 10 66]))))))) (zS [gP 88 8 15,ai 89 10,vV 88 6 88 6 88 88 8,ai 7 89] .ret))))))))))
def afy:aI:=⟨[.rd true l6,.rd false [.d],.rd true Az],(.tup [(true,15),(false,1)] Ct0)⟩
def Ww:aH:=aA [(47,Pq),(12,Yx),(71,Dv),(13,afv),(72,vo),(74,abJ),(73,Dz),(75,zU)]
def Wx (n:Nat):dR × Int × iC->Option (Zt2 × Unit):=aC n Ww Wv [bC,[.i .i64],fQ] Ty1 [] [6,7] .no
def E8:=Wx BIG
def afz:TSp:=⟨afy,[bC,[.i .i64],fQ],Ty1,[],Ou.j .no,E8⟩
theorem aoA:aM PG Ww 15 afy (Wv.ht 90) .no=some (Wv.wc Ww,[6,7]):=by kernel_rfl
theorem amj:afz.Ok PG 15:=aN (ae abE (ae ahI (ae MC (ae amf (ae zK (ae akt (ae ME (ae Oe (aj PG))))))))) aoA (by kernel_rfl)
theorem aoB (n) (a0) (a1) (a2):Wx n (a0,a1,a2) = (Dk a0).bind fun r0=> ((MB a0).bind fun r1=> bif !r1.1 then some true else (vC (a0.1,a2)).bind fun r2=> bif !r2.1 then some true else (Wn a0).bind fun r3=> bif !r3.1 then some true else bif !decide (a1=a0.2.2.2.2.2.2.2.2.2.1) then some true else some (!decide (a2.1=a0.2.2.2.2.2.2.2.2.2.2.1)):Option (Bool)).bind fun x4=> bif x4 then some ((r0.1.1,r0.1.2.1,r0.1.2.2.1,r0.1.2.2.2.1,r0.1.2.2.2.2.1,r0.1.2.2.2.2.2.1,r0.1.2.2.2.2.2.2.1,r0.1.2.2.2.2.2.2.2.1,r0.1.2.2.2.2.2.2.2.2.1,r0.1.2.2.2.2.2.2.2.2.2.1,r0.1.2.2.2.2.2.2.2.2.2.2.1,r0.1.2.2.2.2.2.2.2.2.2.2.2.1,r0.1.2.2.2.2.2.2.2.2.2.2.2.2.1,r0.1.2.2.2.2.2.2.2.2.2.2.2.2.2.1,r0.1.2.2.2.2.2.2.2.2.2.2.2.2.2.2,(0:Int)),()) else bnd r0.1.2.2.2.2.1.length (IntKind.wrap .i64 (a1-(1:Int))) fun n5=> r0.1.2.2.2.2.1[n5]?.bind fun y6=> (jf a2.2.2.2).bind fun r7=> bnd r0.1.2.2.2.1.length (IntKind.wrap .i64 (a1-(1:Int))) fun n8=> r0.1.2.2.2.1[n8]?.bind fun y9=> (bif !decide (r0.1.2.2.2.2.2.2.1=(4:Int)) then (Q_ a2.2.1).bind fun r10=> (jZ ((r0.1.1,r0.1.2.1,r0.1.2.2.1,r0.1.2.2.2.1.set n8 r7.1,r0.1.2.2.2.2.1.set n5 a2.1,(0:Int),(0:Int),(0:Int),(0:Int),(0:Int),(0:Int),(0:Int),[],(0:Int),r0.1.2.2.2.2.2.2.2.2.2.2.2.2.2.2),(r0.1.2.2.2.2.2.1,r0.1.2.2.2.2.2.2.1,r0.1.2.2.2.2.2.2.2.1,r0.1.2.2.2.2.2.2.2.2.1),r10.1)).bind fun r11=> some (r11.2,r11.1) else bif decide (r0.1.2.2.2.2.2.2.2.2.2.2.2.1=(3:Int)) then (pG ((r0.1.1,r0.1.2.1,r0.1.2.2.1,r0.1.2.2.2.1.set n8 r7.1,r0.1.2.2.2.2.1.set n5 a2.1,(0:Int),(0:Int),(0:Int),(0:Int),(0:Int),(0:Int),(0:Int),[],(0:Int),r0.1.2.2.2.2.2.2.2.2.2.2.2.2.2.2),(r0.1.2.2.2.2.2.1,r0.1.2.2.2.2.2.2.1,r0.1.2.2.2.2.2.2.2.1,r0.1.2.2.2.2.2.2.2.2.1),a2.2.2.1)).bind fun r12=> some (r12.2,r12.1) else (jZ ((r0.1.1,r0.1.2.1,r0.1.2.2.1,r0.1.2.2.2.1.set n8 r7.1,r0.1.2.2.2.2.1.set n5 a2.1,(0:Int),(0:Int),(0:Int),(0:Int),(0:Int),(0:Int),(0:Int),[],(0:Int),r0.1.2.2.2.2.2.2.2.2.2.2.2.2.2.2),(r0.1.2.2.2.2.2.1,r0.1.2.2.2.2.2.2.1,r0.1.2.2.2.2.2.2.2.1,r0.1.2.2.2.2.2.2.2.2.1),(1:Int))).bind fun r13=> some (r13.2,r13.1):Option (dR × Int)).bind fun x14=> some ((x14.1.1,x14.1.2.1,x14.1.2.2.1,x14.1.2.2.2.1,x14.1.2.2.2.2.1,x14.1.2.2.2.2.2.1,x14.1.2.2.2.2.2.2.1,x14.1.2.2.2.2.2.2.2.1,x14.1.2.2.2.2.2.2.2.2.1,x14.1.2.2.2.2.2.2.2.2.2.1,x14.1.2.2.2.2.2.2.2.2.2.2.1,x14.1.2.2.2.2.2.2.2.2.2.2.2.1,x14.1.2.2.2.2.2.2.2.2.2.2.2.2.1,x14.1.2.2.2.2.2.2.2.2.2.2.2.2.2.1,x14.1.2.2.2.2.2.2.2.2.2.2.2.2.2.2,x14.2),()):=by kernel_rfl
def DK:TC:=
 (zS [aZ 4] (zQ (zS [tO 6 0 6,tO 8 1 8,tK 10 7 9] (zC 10 (zS [aZ 4] .ret) .skip)) (zQ (.join [] 67106864 (some [⟨4,[.b],false⟩]) (zS [bD 5] (.block 0 (.loop [⟨5,[.i .i64],false⟩] 67106864 (zQ (zS [AL 11 5 0] (zC 14 .skip (.exit 0))) (zQ (.block 1 (zS [cB 17 0 5,cB 21 1 5,jq 19 17 18 6 6,jq 23 21 22 6 6,[o1 25 (.eqA [.i,.i,.i,.i,.i,.i] (.t 20) (.t 24) true)]] (zC 25 (zS [aZ 4] .ret) .skip))) (zR [dZ 15 5 5]))))))) (zS [gH 4] .ret))))
def PD:aI:=⟨[.rd false Ct6,.rd false Ct6],(.one false [.d])⟩
def DL:aH:=aA []
def DN (n:Nat):(List nL) × (List nL)->Option ((Bool) × Unit):=aC n DL DK [XI,XI] [.b] [] [4] .no
def oh:=DN BIG
def PE:TSp:=⟨PD,[XI,XI],[.b],[],Ou.j .no,oh⟩
theorem adN:aM PG DL 17 PD (DK.ht 26) .no=some (DK.wc DL,[4]):=by kernel_rfl
theorem abK:PE.Ok PG 17:=aN (aj PG) adN (by kernel_rfl)
theorem adO (n) (a0) (a1):DN n (a0,a1) = bif !decide ((a0.length:Int)=(a1.length:Int)) then some (false,()) else (aJ n (X:=Int) (B:=(Unit) ⊕ (Bool)) (fun self1 x0=> bif decide (x0<(a0.length:Int)) then bnd a0.length x0 fun n2=> a0[n2]?.bind fun y3=> bnd a1.length x0 fun n4=> a1[n4]?.bind fun y5=> bif !(decide (y3.1=y5.1)&&(decide (y3.2.1=y5.2.1)&&(decide (y3.2.2.1=y5.2.2.1)&&(decide (y3.2.2.2.1=y5.2.2.2.1)&&(decide (y3.2.2.2.2.1=y5.2.2.2.2.1)&&(decide (y3.2.2.2.2.2=y5.2.2.2.2.2)&&true)))))) then some (Sum.inr false) else self1 (IntKind.wrap .i64 (x0+(1:Int))) else some (Sum.inl ())) (0:Int):Option ((Unit) ⊕ (Bool))).bind fun y=>match y with | .inl x6=> some (true,()) | .inr x6=> some (x6,()):=by kernel_rfl
def zV:TC:=
 (zS [aZ 4] (zQ (zS [tO 6 0 6,tO 8 1 8,tK 10 7 9] (zC 10 (zS [aZ 4] .ret) .skip)) (zQ (.join [] 67106864 (some [⟨4,[.b],false⟩]) (zS [bD 5] (.block 0 (.loop [⟨5,[.i .i64],false⟩] 67106864 (zQ (zS [AL 11 5 0] (zC 14 .skip (.exit 0))) (zQ (.block 1 (zS [cB 17 0 5,cB 21 1 5,jq 19 17 18 2 2,jq 23 21 22 2 2,zEB 25 20 24] (zC 25 (zS [aZ 4] .ret) .skip))) (zR [dZ 15 5 5]))))))) (zS [gH 4] .ret))))
def MK:aI:=⟨[.rd false fE,.rd false fE],(.one false [.d])⟩
def zW:aH:=aA []
def zX (n:Nat):(List aF) × (List aF)->Option ((Bool) × Unit):=aC n zW zV [[.sl [.i .i64,.i .i64]],[.sl [.i .i64,.i .i64]]] [.b] [] [4] .no
def sD:=zX BIG
def ML:TSp:=⟨MK,[[.sl [.i .i64,.i .i64]],[.sl [.i .i64,.i .i64]]],[.b],[],Ou.j .no,sD⟩
theorem abL:aM PG zW 20 MK (zV.ht 26) .no=some (zV.wc zW,[4]):=by kernel_rfl
theorem Y7:ML.Ok PG 20:=aN (aj PG) abL (by kernel_rfl)
theorem abM (n) (a0) (a1):zX n (a0,a1) = bif !decide ((a0.length:Int)=(a1.length:Int)) then some (false,()) else (aJ n (X:=Int) (B:=(Unit) ⊕ (Bool)) (fun self1 x0=> bif decide (x0<(a0.length:Int)) then bnd a0.length x0 fun n2=> a0[n2]?.bind fun y3=> bnd a1.length x0 fun n4=> a1[n4]?.bind fun y5=> bif !(decide (y3.1=y5.1)&&(decide (y3.2=y5.2)&&true)) then some (Sum.inr false) else self1 (IntKind.wrap .i64 (x0+(1:Int))) else some (Sum.inl ())) (0:Int):Option ((Unit) ⊕ (Bool))).bind fun y=>match y with | .inl x6=> some (true,()) | .inr x6=> some (x6,()):=by kernel_rfl
def DR:TC:=
 (zS [aZ 4] (zQ (zS [tO 6 0 6,tO 8 1 8,tK 10 7 9] (zC 10 (zS [aZ 4] .ret) .skip)) (zQ (.join [] 67106864 (some [⟨4,[.b],false⟩]) (zS [bD 5] (.block 0 (.loop [⟨5,[.i .i64],false⟩] 67106864 (zQ (zS [AL 11 5 0] (zC 14 .skip (.exit 0))) (zQ (.block 1 (zS [cB 17 0 5,cB 21 1 5,ku 19 17 18 1,ku 23 21 22 1,tK 25 20 24] (zC 25 (zS [aZ 4] .ret) .skip))) (zR [dZ 15 5 5]))))))) (zS [gH 4] .ret))))
def PH:aI:=⟨[.rd false dF,.rd false dF],(.one false [.d])⟩
def DT:aH:=aA []
def DU (n:Nat):List Int × List (Int)->Option ((Bool) × Unit):=aC n DT DR [[.sl [.i .i64]],[.sl [.i .i64]]] [.b] [] [4] .no
def DV:=DU BIG
def PI:TSp:=⟨PH,[[.sl [.i .i64]],[.sl [.i .i64]]],[.b],[],Ou.j .no,DV⟩
theorem adP:aM PG DT 21 PH (DR.ht 26) .no=some (DR.wc DT,[4]):=by kernel_rfl
theorem abN:PI.Ok PG 21:=aN (aj PG) adP (by kernel_rfl)
theorem adQ (n) (a0) (a1):DU n (a0,a1) = bif !decide ((a0.length:Int)=(a1.length:Int)) then some (false,()) else (aJ n (X:=Int) (B:=(Unit) ⊕ (Bool)) (fun self1 x0=> bif decide (x0<(a0.length:Int)) then bnd a0.length x0 fun n2=> a0[n2]?.bind fun y3=> bnd a1.length x0 fun n4=> a1[n4]?.bind fun y5=> bif !decide (y3=y5) then some (Sum.inr false) else self1 (IntKind.wrap .i64 (x0+(1:Int))) else some (Sum.inl ())) (0:Int):Option ((Unit) ⊕ (Bool))).bind fun y=>match y with | .inl x6=> some (true,()) | .inr x6=> some (x6,()):=by kernel_rfl
def Ib:TC:=
 (zS [aZ 2] (zQ (zS [ai 12 0,dX 13 7 12] (zC 13 (zS [gH 2] .ret) .skip)) (zS [ai 15 0,dX 16 18 15,bV 16 14 16,zDb 14 15 17 14,zDc 18 14 15,[o5 (.ext 14 16 4) 19 14],qM 3 1000000004,Jl 5 1000000006,vZ 3 17 3 17,dW 5 19 5 19] (zS [gP 21 3 15,ai 22 4,gP 23 5 4,Ox 24 15 21 22 23,zLB 24 20 24 15,qM 6 1000000007,vZ 6 25 6 25] (zS [gP 28 3 15,ai 29 4,gP 30 5 4,Ox 31 19 28 29 30,zLB 31 27 31 15,qM 8 1000000009,vZ 8 32 8 32] (zQ (.seq (.join [⟨61,[.b],false⟩] 4611686001247518720 none (zR [cB 34 7 9,tK 36 34 35,ai 37 36,vW 38 3,zJc 39 6 14 38 3,vW 40 3,zJc 41 8 14 40 3,yK 17 39 41 42 42 3,qc 43 42 3 37,XR 46 11,w9 48 6 9 47 11,XR 49 11,w9 51 8 9 50 11,EM 52 48 51 11 45,ai 54 53,vW 55 20,zJc 56 6 2 55 20,vW 57 20,zJc 58 8 2 57 20,yK 20 56 58 59 59 20,qN 60 59 20 54])) (zC 61 (zS [aZ 2] .ret) .skip)) (zQ (zS [ai 62 7,tJ 63 62 0] (zC 63 (zQ (.join [⟨2,[.b],false⟩] 9671388110172959688097796 none (zR [jr 64 6 14,jr 66 3 14,fJ 68 17 65 67,ai 69 68,ko 70 5,zJd 71 6 2 70 5,ko 72 5,zJd 73 3 2 72 5,kR 20 71 73 74 74 5,kS 69 74 75,ko 77 12,zJd 78 6 1 77 12,ko 79 12,zJd 80 3 1 79 12,kR 21 78 80 81 81 12,kU 76 81 82 2])) .ret) .skip)) (zS [gP 84 6 15,ai 85 4,gP 86 5 4,Ox 87 15 84 85 86,zLB 87 83 87 15,qM 10 1000000011,vZ 10 88 10 88] (zQ (.join [⟨2,[.b],false⟩] 324517315718387441402881121452036 none (zR [ai 90 11,tJ 91 90 0,Jq 92 91 4 2,ko 94 2,yL 95 94 2,tF 96 3 9 95 2,Tq 97 93 96 2 92,tN 100 9 5 0 9,ko 102 9,yL 103 102 9,yL 104 103 9,tF 105 3 10 104 9,XM 106 101 105 9,kU 99 106 107 2])) .ret)))))))))
def UC:aI:=⟨[.rd false dF],(.one false [.d])⟩
def Ic:aH:=aA [(7,ajJ),(18,Pj),(15,afz),(19,V6),(17,PE),(20,ML),(21,PI)]
def Ie (n:Nat):List (Int)->Option ((Bool) × Unit):=aC n Ic Ib [[.sl [.i .u8]]] [.b] [] [2] .no
def UD:=Ie BIG
def ahM:TSp:=⟨UC,[[.sl [.i .u8]]],[.b],[],Ou.j .no,UD⟩
theorem ahN:aM PG Ic 4 UC (Ib.ht 108) .no=some (Ib.wc Ic,[2]):=by kernel_rfl
theorem adR:ahM.Ok PG 4:=aN (ae aol (ae abA (ae amj (ae abp (ae abK (ae Y7 (ae abN (aj PG)))))))) ahN (by kernel_rfl)
theorem ahO (n) (a0):Ie n a0 = (aa2 a0).bind fun r0=> bif r0.1 then some (true,()) else (C9 a0).bind fun r1=> (E8 ((r1.1.1,r1.1.2.1,r1.1.2.2.1,r1.1.2.2.2.1,r1.1.2.2.2.2.1,r1.1.2.2.2.2.2.1,r1.1.2.2.2.2.2.2.1,r1.1.2.2.2.2.2.2.2.1,r1.1.2.2.2.2.2.2.2.2.1,r1.1.2.2.2.2.2.2.2.2.2.1,r1.1.2.2.2.2.2.2.2.2.2.2.1,r1.1.2.2.2.2.2.2.2.2.2.2.2.1,r1.1.2.2.2.2.2.2.2.2.2.2.2.2.1,r1.1.2.2.2.2.2.2.2.2.2.2.2.2.2.1,r1.1.2.2.2.2.2.2.2.2.2.2.2.2.2.2.1),r1.1.2.2.2.2.2.2.2.2.2.2.2.2.2.2.2.1,r1.1.2.2.2.2.2.2.2.2.2.2.2.2.2.2.2.2)).bind fun r2=> (yf ((r1.1.1,r1.1.2.1,r1.1.2.2.1,r1.1.2.2.2.1,r1.1.2.2.2.2.1,r1.1.2.2.2.2.2.1,r1.1.2.2.2.2.2.2.1,r1.1.2.2.2.2.2.2.2.1,r1.1.2.2.2.2.2.2.2.2.1,r1.1.2.2.2.2.2.2.2.2.2.1,r1.1.2.2.2.2.2.2.2.2.2.2.1,r1.1.2.2.2.2.2.2.2.2.2.2.2.1,r1.1.2.2.2.2.2.2.2.2.2.2.2.2.1,r1.1.2.2.2.2.2.2.2.2.2.2.2.2.2.1,r1.1.2.2.2.2.2.2.2.2.2.2.2.2.2.2.1),r1.1.2.2.2.2.2.2.2.2.2.2.2.2.2.2.2.1,r1.1.2.2.2.2.2.2.2.2.2.2.2.2.2.2.2.2)).bind fun r3=> (bif !decide (r2.1.2.2.2.2.2.2.2.2.2.2.2.2.2.2.2=r3.1.2.2.2.2.2.2.2.2.2.2.2.2.2.2.2) then some true else (oh (r2.1.2.2.2.2.2.2.2.2.2.2.2.2.2.2.1,r3.1.2.2.2.2.2.2.2.2.2.2.2.2.2.2.1)).bind fun r4=> bif !r4.1 then some true else bif !decide (r2.1.2.2.2.2.2.2.2.2.2.1=r3.1.2.2.2.2.2.2.2.2.2.1) then some true else (sD (r2.1.2.2.1,r3.1.2.2.1)).bind fun r5=> some !r5.1:Option (Bool)).bind fun x6=> bif x6 then some (false,()) else bif decide (r2.1.2.2.2.2.2.2.2.2.2.2.2.2.2.2.2=(0:Int)) then ((oh (r2.1.2.2.2.2.2.2.2.2.2.2.2.2.2.2.1,r1.1.2.2.2.2.2.2.2.2.2.2.2.2.2.2.1)).bind fun r7=> bif r7.1 then (sD (r2.1.2.2.1,r1.1.2.2.1)).bind fun r8=> bif r8.1 then (DV (r2.1.2.1,r1.1.2.1)).bind fun r9=> some r9.1 else some false else some false:Option (Bool)).bind fun x10=> some (x10,()) else (E8 ((r2.1.1,r2.1.2.1,r2.1.2.2.1,r2.1.2.2.2.1,r2.1.2.2.2.2.1,r2.1.2.2.2.2.2.1,r2.1.2.2.2.2.2.2.1,r2.1.2.2.2.2.2.2.2.1,r2.1.2.2.2.2.2.2.2.2.1,r2.1.2.2.2.2.2.2.2.2.2.1,r2.1.2.2.2.2.2.2.2.2.2.2.1,r2.1.2.2.2.2.2.2.2.2.2.2.2.1,r2.1.2.2.2.2.2.2.2.2.2.2.2.2.1,r2.1.2.2.2.2.2.2.2.2.2.2.2.2.2.1,r2.1.2.2.2.2.2.2.2.2.2.2.2.2.2.2.1),r1.1.2.2.2.2.2.2.2.2.2.2.2.2.2.2.2.1,r1.1.2.2.2.2.2.2.2.2.2.2.2.2.2.2.2.2)).bind fun r11=> (bif decide (r11.1.2.2.2.2.2.2.2.2.2.2.2.2.2.2.2=(0:Int)) then bif decide (r1.1.2.2.2.2.2.2.2.2.2.2.2.2.2.2.2.1=r1.1.2.2.2.2.2.2.2.2.2.1) then some (decide (r1.1.2.2.2.2.2.2.2.2.2.2.2.2.2.2.2.2.1=r1.1.2.2.2.2.2.2.2.2.2.2.1)) else some false else some false:Option (Bool)).bind fun x12=> some (x12,()):=by kernel_rfl
def Ig:TC:=
 (zS [iK 1 0] (zQ (.join [⟨2,[.b],false⟩] 8188 none (zR [fK 3 1 0 3,nH 5 48 4 12,ai 6 5,ko 7 3,tF 8 1 0 7 3,ko 9 3,tF 10 1 1 9 3,kR 144 8 10 11 11 3,kU 6 11 12 2])) .ret))
def UE:aI:=⟨[.rd true Ot],(.one false [.d])⟩
def Ih:aH:=aA [(48,lm),(144,sw)]
def Ii (n:Nat):kJ->Option ((Bool) × Unit):=aC n Ih Ig [gI] [.b] [] [2] .no
def xO:=Ii BIG
def Ij:TSp:=⟨UE,[gI],[.b],[],Ou.j .no,xO⟩
theorem ahP:aM PG Ih 193 UE (Ig.ht 13) .no=some (Ig.wc Ih,[2]):=by kernel_rfl
theorem PL:Ij.Ok PG 193:=aN (ae jW (ae vz (aj PG))) ahP (by kernel_rfl)
theorem ahQ (n) (a0):Ii n a0 = ((fq (a0.1,(1:Int),(12:Int))).bind fun r0=> bif r0.1 then (nC (a0.1,a0.2)).bind fun r1=> some r1.1 else some false:Option (Bool)).bind fun x2=> some (x2,()):=by kernel_rfl
def Ik:TC:=
 (zS [bW 2 0,iK 3 1] (zS [fK 5 2 1 5,dw 7 3 2,fJ 8 155 6 7,ai 4 8] .ret))
def UF:aI:=⟨[.rd true Ot,.rd true [.d,.d]],(.one false [.d])⟩
def Il:aH:=aA [(155,Ia)]
def Im (n:Nat):kJ × aF->Option ((Bool) × Unit):=aC n Il Ik [gI,[.i .i64,.i .i64]] [.b] [] [4] .no
def xP:=Im BIG
def Io:TSp:=⟨UF,[gI,[.i .i64,.i .i64]],[.b],[],Ou.j .no,xP⟩
theorem ahR:aM PG Il 149 UF (Ik.ht 9) .no=some (Ik.wc Il,[4]):=by kernel_rfl
theorem PN:Io.Ok PG 149:=aN (ae Py (aj PG)) ahR (by kernel_rfl)
theorem ahS (n) (a0) (a1):Im n (a0,a1) = (xN (a0.2,a1)).bind fun r0=> some (r0.1,()):=by kernel_rfl
def Ip:TC:=
 (zS [bW 2 0,bW 3 1,Ta 4 1000000005,aZ 5] (zQ (.seq (.join [⟨20,[.b],false⟩] 2097088 none (zR [dw 6 2 2,dX 7 193 6,iH 8 7,ai 9 8,iJ 10 3 2 0 3,OG 12 3 2 3 189 11 3,qc 14 13 3 9,AB 17 2 2 10,AB 18 3 2 10,yK 149 17 18 19 19 10,tC 16 19 20])) (zC 20 (zS [zGo 21,dW 4 21 4 21,aZ 5] .ret) .skip)) (zS [kT 22 2 0 2 1,xf 26 3 2 156 25,zGp,dW 4 28 4 28,gH 5] .ret)))
def UG:aI:=⟨[.rd true Ot,.rd true [.d,.d]],(.tup [(true,2),(false,1)] [.d,.sl (.own none) [.d,.d],.d])⟩
def Iq:aH:=aA [(193,Ij),(189,LY),(149,Io),(156,DJ)]
def Ir (n:Nat):kJ × aF->Option ((Int × List aF × Bool) × Unit):=aC n Iq Ip [gI,[.i .i64,.i .i64]] agG [] [4,5] .no
def Iu:=Ir BIG
def UH:TSp:=⟨UG,[gI,[.i .i64,.i .i64]],agG,[],Ou.j .no,Iu⟩
theorem ahT:aM PG Iq 198 UG (Ip.ht 29) .no=some (Ip.wc Iq,[4,5]):=by kernel_rfl
theorem adS:UH.Ok PG 198:=aN (ae PL (ae Uw (ae PN (ae MF (aj PG))))) ahT (by kernel_rfl)
theorem ahU (n) (a0) (a1):Ir n (a0,a1) = ((xO a0).bind fun r0=> bif !r0.1 then some true else (Bi (a0.1,a1)).bind fun r1=> bif !r1.1 then some true else (xP (a0,a1)).bind fun r2=> some r2.1:Option (Bool)).bind fun x3=> bif x3 then some (((0:Int),[],false),()) else (vD (a0.2,a1)).bind fun r4=> some ((a0.1,r4.1,true),()):=by kernel_rfl
def Iw:TC:=
 (zS [bW 1 0,Ta 2 1000000003] (zS [fK 6 1 0 6,zDh 8 7,Ta 3 1000000004,dW 3 8 3 8] (zQ (.join [⟨3,gI,false⟩] 134217256 none (zS [fK 9 1 1 9,jR 11 10] (.block 0 (.loop [⟨3,gI,false⟩,⟨12,[.i .i64],false⟩] 134213672 (zS [eD 13 12 11] (zQ (zC 13 .skip (.exit 0)) (zQ (.block 1 (zS [jq 14 10 12 4 4,Ow 5 1000000006,df 5 5 15] (zR [jr 16 3 1,kT 18 5 0 5 1,AA 22 19 21,Kg 23 22,OH 17 17 23 24 17 17 3 24 3 3 1]))) (zR [l7 26 12])))))))) (zS [nY 27 3 2 2 2 3] .ret))))
def UI:aI:=⟨[.rd true qa],(.one true Ot)⟩
def Iy:aH:=aA []
def Iz (n:Nat):bK->Option (kJ × Unit):=aC n Iy Iw [bv] gI [] [2] .no
def iY:=Iz BIG
def sF:TSp:=⟨UI,[bv],gI,[],Ou.j .no,iY⟩
theorem ahV:aM PG Iy 150 UI (Iw.ht 28) .no=some (Iw.wc Iy,[2]):=by kernel_rfl
theorem vE:sF.Ok PG 150:=aN (aj PG) ahV (by kernel_rfl)
theorem ahW (n) (a0):Iz n a0 = (aJ n (X:=kJ × Int) (B:=kJ) (fun self1 x0=> bif decide (x0.2<(a0.2.length:Int)) then bnd a0.2.length x0.2 fun n2=> a0.2[n2]?.bind fun y3=> bif decide (x0.1.2.length+([(y3.1,y3.2.1)]).length<=4294967296) then self1 ((x0.1.1,x0.1.2++([(y3.1,y3.2.1)])),IntKind.wrap .i64 (x0.2+(1:Int))) else none else some x0.1) ((a0.1,[]),(0:Int)):Option (kJ)).bind fun x4=> some (x4,()):=by kernel_rfl
def zY:TC:=
 (zS [bW 1 0,vX 2] (zS [vX 3] (zQ (.join [⟨3,[.sl [.i .i64,.i .i64]],false⟩] 16777192 none (zS [fK 6 1 1 6,jR 8 7] (.block 0 (.loop [⟨3,[.sl [.i .i64,.i .i64]],false⟩,⟨9,[.i .i64],false⟩] 16776744 (zS [eD 10 9 8] (zQ (zC 10 .skip (.exit 0)) (zQ (.join [⟨3,[.sl [.i .i64,.i .i64]],false⟩] 8386600 none (.block 1 (zS [Ki 11 7 9 7 4 4,Ow 5 1000000006,df 5 5 12] (zS [bF 13 5 3] (zC 14 (zR [bV 3 15 3,kT 16 5 0 5 1,AA 20 17 19,EN 21 20 15 15 3]) .skip))))) (zR [yI 23 9,ai 9 23])))))))) (zS [qd 3 24 3 2] .ret))))
def MM:aI:=⟨[.rd true qa],(.one false fE)⟩
def zZ:aH:=aA []
def z8 (n:Nat):bK->Option ((List aF) × Unit):=aC n zZ zY [bv] [.sl [.i .i64,.i .i64]] [] [2] .no
def z_:=z8 BIG
def MN:TSp:=⟨MM,[bv],[.sl [.i .i64,.i .i64]],[],Ou.j .no,z_⟩
theorem abO:aM PG zZ 195 MM (zY.ht 25) .no=some (zY.wc zZ,[2]):=by kernel_rfl
theorem Y8:MN.Ok PG 195:=aN (aj PG) abO (by kernel_rfl)
theorem abP (n) (a0):z8 n a0 = (aJ n (X:=(List aF) × Int) (B:=(List aF)) (fun self1 x0=> bif decide (x0.2<(a0.2.length:Int)) then (bnd a0.2.length x0.2 fun n2=> a0.2[n2]?.bind fun y3=> bif y3.2.2.2 then bif decide (x0.1.length+([(y3.1,y3.2.1)]).length<=4294967296) then some (x0.1++([(y3.1,y3.2.1)])) else none else some x0.1:Option ((List aF))).bind fun x4=> self1 (x4,IntKind.wrap .i64 (x0.2+(1:Int))) else some x0.1) ([],(0:Int)):Option ((List aF))).bind fun x5=> some (x5,()):=by kernel_rfl
def Re:TC:=
 (zS [EF 2] (zS [EF 3] (zQ (.join [⟨3,[.sl [.i .i64]],false⟩] 16376 none (zS [ai 5 0,bD 6] (.block 0 (.loop [⟨3,[.sl [.i .i64]],false⟩,⟨6,[.i .i64],false⟩] 16344 (zS [eD 7 6 5] (zQ (zC 7 .skip (.exit 0)) (zQ (.block 1 (zS [ai 8 6,ai 4 8] (zR [bV 3 9 3,ai 10 4,Ke 11 10,Kh 9 11 12 9 3]))) (zR [yI 13 6,ai 6 13])))))))) (zS [qd 3 14 3 2] .ret))))
def abQ:aI:=⟨[.rd false [.d]],(.one false dF)⟩
def Rf:aH:=aA []
def Rh (n:Nat):Int->Option ((List Int) × Unit):=aC n Rf Re [[.i .i64]] [.sl [.i .i64]] [] [2] .no
def IA:=Rh BIG
def Ri:TSp:=⟨abQ,[[.i .i64]],[.sl [.i .i64]],[],Ou.j .no,IA⟩
theorem amk:aM PG Rf 177 abQ (Re.ht 15) .no=some (Re.wc Rf,[2]):=by kernel_rfl
theorem YA:Ri.Ok PG 177:=aN (aj PG) amk (by kernel_rfl)
theorem aml (n) (a0):Rh n a0 = (aJ n (X:=(List Int) × Int) (B:=(List Int)) (fun self1 x0=> bif decide (x0.2<a0) then bif decide (x0.1.length+[x0.2].length<=4294967296) then self1 (x0.1++[x0.2],IntKind.wrap .i64 (x0.2+(1:Int))) else none else some x0.1) ([],(0:Int)):Option ((List Int))).bind fun x2=> some (x2,()):=by kernel_rfl
def Rj:TC:=
 (zS [aZ 6] (zS [Jp 10 0 1,Jp 14 0 2,EL 12 10 11 0 1,EL 16 14 15 0 1,cB 7 13 17] (zQ (zS [cB 18 7 8,mI 20 18 19] (zC 20 (zS [aZ 6] .ret) .skip)) (zQ (.join [⟨0,[.sl [.i .i64]],false⟩] 2199021158913 none (zS [eU 21 0,jR 22 21] (.block 0 (.loop [⟨0,[.sl [.i .i64]],false⟩,⟨23,[.i .i64],false⟩] 2199016982017 (zS [eD 24 23 22] (zQ (zC 24 .skip (.exit 0)) (zQ (.join [⟨0,[.sl [.i .i64]],false⟩] 1099478073857 none (.block 1 (zS [ai 25 23,ai 9 25] (zS [Jp 26 0 9,EL 28 26 27 0 1,cB 30 7 8,[o1 32 (.data .max [.t 30,.t 31])],mI 33 29 32] (zC 33 (zR [eU 34 0,cB 35 9 7,ai 37 8,[o1 38 (.data .min [.t 36,.t 37])],qb 39 34 35,[o4 1 [0,26,34] (.store 0 [(0,1)] 0 (.t 39) (.t 38))]]) .skip))))) (zR [l7 40 23])))))))) (zS [gH 6] .ret)))))
def abR:aI:=⟨[.mt false dF,.rd false [.d],.rd false [.d]],(.one false [.d])⟩
def Rk:aH:=aA []
def Rl (n:Nat):List Int × Int × Int->Option ((Bool) × List Int):=aC n Rk Rj [[.sl [.i .i64]],[.i .i64],[.i .i64]] [.b] [.sl [.i .i64]] [6] (.mt 0 0 0)
def IB:=Rl BIG
def Rm:TSp:=⟨abR,[[.sl [.i .i64]],[.i .i64],[.i .i64]],[.b],[.sl [.i .i64]],Ou.j (.mt 0 0 0),IB⟩
theorem amm:aM PG Rk 188 abR (Rj.ht 41) (.mt 0 0 0)=some (Rj.wc Rk,[6]):=by kernel_rfl
theorem YB:Rm.Ok PG 188:=aN (aj PG) amm (by kernel_rfl)
theorem amn (n) (a0) (a1) (a2):Rl n (a0,a1,a2) = bnd a0.length a1 fun n0=> a0[n0]?.bind fun y1=> bnd a0.length a2 fun n2=> a0[n2]?.bind fun y3=> bif decide (y1=y3) then some (false,a0) else (aJ n (X:=(List Int) × Int) (B:=(List Int)) (fun self5 x4=> bif decide (x4.2<(a0.length:Int)) then (bnd x4.1.length x4.2 fun n6=> x4.1[n6]?.bind fun y7=> bif decide (y7=(if y3 > y1 then y3 else y1)) then bnd x4.1.length x4.2 fun n8=> x4.1[n8]?.bind fun y9=> some (x4.1.set n8 (if y3<y1 then y3 else y1)) else some x4.1:Option ((List Int))).bind fun x10=> self5 (x10,IntKind.wrap .i64 (x4.2+(1:Int))) else some x4.1) (a0,(0:Int)):Option ((List Int))).bind fun x11=> some (true,x11):=by kernel_rfl
def Rn:TC:=
 (zS [aZ 4] (zS [ai 8 0,dX 9 177 8,bV 9 5 9] (zQ (.join [] 16776368 (some [⟨4,[.b],false⟩]) (zS [ai 10 1,jR 11 10] (.block 0 (.loop [⟨5,[.sl [.i .i64]],false⟩,⟨12,[.i .i64],false⟩] 16773296 (zS [eD 13 12 11] (zQ (zC 13 .skip (.exit 0)) (zQ (.block 1 (zS [jq 14 10 12 2 2,lG 7 1000000008,df 7 7 15] (zS [eU 16 5,kT 17 7 0 7 1,zJe 16 18 20 16 21 16 21,iH 22 21] (zC 22 (zS [gH 4] .ret) .skip)))) (zR [l7 23 12])))))))) (zS [aZ 4] .ret))))
def abS:aI:=⟨[.rd false [.d],.rd false fE],(.one false [.d])⟩
def Ro:aH:=aA [(177,Ri),(188,Rm)]
def Rp (n:Nat):Int × (List aF)->Option ((Bool) × Unit):=aC n Ro Rn [[.i .i64],[.sl [.i .i64,.i .i64]]] [.b] [] [4] .no
def Rq:=Rp BIG
def abT:TSp:=⟨abS,[[.i .i64],[.sl [.i .i64,.i .i64]]],[.b],[],Ou.j .no,Rq⟩
theorem amo:aM PG Ro 194 abS (Rn.ht 24) .no=some (Rn.wc Ro,[4]):=by kernel_rfl
theorem akw:abT.Ok PG 194:=aN (ae YA (ae YB (aj PG))) amo (by kernel_rfl)
theorem amq (n) (a0) (a1):Rp n (a0,a1) = (IA a0).bind fun r0=> (aJ n (X:=(List Int) × Int) (B:=(Unit) ⊕ (Bool)) (fun self2 x1=> bif decide (x1.2<(a1.length:Int)) then bnd a1.length x1.2 fun n3=> a1[n3]?.bind fun y4=> (IB (x1.1,y4.1,y4.2)).bind fun r5=> bif !r5.1 then some (Sum.inr true) else self2 (r5.2,IntKind.wrap .i64 (x1.2+(1:Int))) else some (Sum.inl ())) (r0.1,(0:Int)):Option ((Unit) ⊕ (Bool))).bind fun y=>match y with | .inl x6=> some (false,()) | .inr x6=> some (x6,()):=by kernel_rfl
def MO:TC:=
 (zS [bW 2 0,vX 4] (zS [vX 5] (zQ (.join [⟨5,[.sl [.i .i64,.i .i64]],false⟩] 4294967200 none (zS [fK 8 2 1 8,jR 10 9] (.block 0 (.loop [⟨5,[.sl [.i .i64,.i .i64]],false⟩,⟨11,[.i .i64],false⟩] 4294965408 (zS [eD 12 11 10] (zQ (zC 12 .skip (.exit 0)) (zQ (.join [⟨5,[.sl [.i .i64,.i .i64]],false⟩] 2147475616 none (.block 1 (zS [Ki 13 9 11 9 4 4,Ow 7 1000000008,df 7 7 14] (zQ (.join [⟨22,[.b],false⟩] 8355840 none (zR [bF 15 7 3,qf 17 16 2 7 2 2,eQ 20 1 2,zDD 21 19 20 2,lF 17 21 22])) (zC 22 (zR [bV 5 23 5,kT 24 7 0 7 1,AA 28 25 27,EN 29 28 23 23 5]) .skip))))) (zR [l7 31 11])))))))) (zS [qd 5 32 5 4] .ret))))
def YC:aI:=⟨[.rd true qa,.rd false [.d]],(.one false fE)⟩
def MP:aH:=aA []
def MQ (n:Nat):bK × Int->Option ((List aF) × Unit):=aC n MP MO [bv,[.i .i64]] [.sl [.i .i64,.i .i64]] [] [4] .no
def Bl:=MQ BIG
def MR:TSp:=⟨YC,[bv,[.i .i64]],[.sl [.i .i64,.i .i64]],[],Ou.j .no,Bl⟩
theorem akx:aM PG MP 199 YC (MO.ht 33) .no=some (MO.wc MP,[4]):=by kernel_rfl
theorem UJ:MR.Ok PG 199:=aN (aj PG) akx (by kernel_rfl)
theorem aky (n) (a0) (a1):MQ n (a0,a1) = (aJ n (X:=(List aF) × Int) (B:=(List aF)) (fun self1 x0=> bif decide (x0.2<(a0.2.length:Int)) then (bnd a0.2.length x0.2 fun n2=> a0.2[n2]?.bind fun y3=> (bif y3.2.2.2 then some (decide (a1<=y3.2.2.1)) else some false:Option (Bool)).bind fun x4=> bif x4 then bif decide (x0.1.length+([(y3.1,y3.2.1)]).length<=4294967296) then some (x0.1++([(y3.1,y3.2.1)])) else none else some x0.1:Option ((List aF))).bind fun x5=> self1 (x5,IntKind.wrap .i64 (x0.2+(1:Int))) else some x0.1) ([],(0:Int)):Option ((List aF))).bind fun x6=> some (x6,()):=by kernel_rfl
def DW:TC:=
 (zS [bW 2 0,EF 4] (zS [fK 8 2 0 8,dX 10 177 9,bV 10 5 10] (zQ (.join [⟨5,[.sl [.i .i64]],false⟩] 67106976 none (zS [EP 11 2 2 1,fJ 13 199 11 12,jR 14 13] (.block 0 (.loop [⟨5,[.sl [.i .i64]],false⟩,⟨15,[.i .i64],false⟩] 67076256 (zS [eD 16 15 14] (zQ (zC 16 .skip (.exit 0)) (zQ (.block 1 (zS [jq 17 13 15 2 2,lG 7 1000000008,df 7 7 18] (zR [eU 19 5,kT 20 7 0 7 1,zJe 19 21 23 19 24 19 24]))) (zR [l7 25 15])))))))) (zS [qd 5 26 5 4] .ret))))
def PP:aI:=⟨[.rd true qa,.rd false [.d]],(.one false dF)⟩
def DY:aH:=aA [(177,Ri),(199,MR),(188,Rm)]
def DZ (n:Nat):bK × Int->Option ((List Int) × Unit):=aC n DY DW [bv,[.i .i64]] [.sl [.i .i64]] [] [4] .no
def j_:=DZ BIG
def lM:TSp:=⟨PP,[bv,[.i .i64]],[.sl [.i .i64]],[],Ou.j .no,j_⟩
theorem adT:aM PG DY 154 PP (DW.ht 27) .no=some (DW.wc DY,[4]):=by kernel_rfl
theorem mU:lM.Ok PG 154:=aN (ae YA (ae UJ (ae YB (aj PG)))) adT (by kernel_rfl)
theorem adU (n) (a0) (a1):DZ n (a0,a1) = (IA a0.1).bind fun r0=> ((Bl (a0,a1)).bind fun r1=> aJ n (X:=(List Int) × Int) (B:=(List Int)) (fun self3 x2=> bif decide (x2.2<(r1.1.length:Int)) then bnd r1.1.length x2.2 fun n4=> r1.1[n4]?.bind fun y5=> (IB (x2.1,y5.1,y5.2)).bind fun r6=> self3 (r6.2,IntKind.wrap .i64 (x2.2+(1:Int))) else some x2.1) (r0.1,(0:Int)):Option ((List Int))).bind fun x7=> some (x7,()):=by kernel_rfl
def Rs:TC:=
 (zS [bD 4] (zS [bD 5] (zQ (.join [⟨5,[.i .i64],false⟩] 1048480 none (zS [ai 8 0,jR 9 8] (.block 0 (.loop [⟨5,[.i .i64],false⟩,⟨10,[.i .i64],false⟩] 1047712 (zS [eD 11 10 9] (zQ (zC 11 .skip (.exit 0)) (zQ (.join [⟨5,[.i .i64],false⟩] 520352 none (.block 1 (zS [EL 12 8 10 8 1,ai 7 13] (zS [cB 14 7 1,mI 16 14 15] (zC 16 (zR [dZ 17 5 5]) .skip))))) (zR [l7 19 10])))))))) (zS [ai 20 5,ai 4 20] .ret))))
def abU:aI:=⟨[.rd false dF,.rd false [.d]],(.one false [.d])⟩
def Rt:aH:=aA []
def Ru (n:Nat):List Int × Int->Option ((Int) × Unit):=aC n Rt Rs [[.sl [.i .i64]],[.i .i64]] [.i .i64] [] [4] .no
def Aa:=Ru BIG
def Rv:TSp:=⟨abU,[[.sl [.i .i64]],[.i .i64]],[.i .i64],[],Ou.j .no,Aa⟩
theorem amr:aM PG Rt 197 abU (Rs.ht 21) .no=some (Rs.wc Rt,[4]):=by kernel_rfl
theorem YD:Rv.Ok PG 197:=aN (aj PG) amr (by kernel_rfl)
theorem ams (n) (a0) (a1):Ru n (a0,a1) = (aJ n (X:=Int × Int) (B:=Int) (fun self1 x0=> bif decide (x0.2<(a0.length:Int)) then (bnd a0.length x0.2 fun n2=> a0[n2]?.bind fun y3=> bif decide (y3=a1) then some (IntKind.wrap .i64 (x0.1+(1:Int))) else some x0.1:Option (Int)).bind fun x4=> self1 (x4,IntKind.wrap .i64 (x0.2+(1:Int))) else some x0.1) ((0:Int),(0:Int)):Option (Int)).bind fun x5=> some (x5,()):=by kernel_rfl
def IC:TC:=
 (zS [bW 2 0,aZ 4] (zS [EP 8 2 2 1,fJ 10 154 8 9,bV 10 5 10] (zQ (.join [] 4294965392 (some [⟨4,[.b],false⟩]) (zS [EP 11 2 2 1,fJ 13 199 11 12,jR 14 13] (.block 0 (.loop [⟨15,[.i .i64],false⟩] 4294934672 (zS [eD 16 15 14] (zQ (zC 16 .skip (.exit 0)) (zQ (.block 1 (zS [jq 17 13 15 2 2,lG 7 1000000008,df 7 7 18] (zS [eU 19 5,eU 20 5,ai 28 1,Tt 21 7 0 20 5 1,fJ 25 197 19 24,bF 26 2 0,[o1 29 (.data (.bin .shr) [.t 27,.t 28])],zGs 30 25 29] (zC 30 (zS [aZ 4] .ret) .skip)))) (zR [l7 31 15])))))))) (zS [gH 4] .ret))))
def UK:aI:=⟨[.rd true qa,.rd false [.d]],(.one false [.d])⟩
def IE:aH:=aA [(154,lM),(199,MR),(197,Rv)]
def IG (n:Nat):bK × Int->Option ((Bool) × Unit):=aC n IE IC [bv,[.i .i64]] [.b] [] [4] .no
def II:=IG BIG
def UL:TSp:=⟨UK,[bv,[.i .i64]],[.b],[],Ou.j .no,II⟩
theorem ahX:aM PG IE 196 UK (IC.ht 32) .no=some (IC.wc IE,[4]):=by kernel_rfl
theorem adV:UL.Ok PG 196:=aN (ae mU (ae UJ (ae YD (aj PG)))) ahX (by kernel_rfl)
theorem ahY (n) (a0) (a1):IG n (a0,a1) = (j_ (a0,a1)).bind fun r0=> ((Bl (a0,a1)).bind fun r1=> aJ n (X:=Int) (B:=(Unit) ⊕ (Bool)) (fun self3 x2=> bif decide (x2<(r1.1.length:Int)) then bnd r1.1.length x2 fun n4=> r1.1[n4]?.bind fun y5=> bnd r0.1.length y5.1 fun n6=> r0.1[n6]?.bind fun y7=> (Aa (r0.1,y7)).bind fun r8=> bif decide (a1<0) then none else bif decide ((Int.fdiv a0.1 (2 ^ (Nat.min (Int.toNat a1) (IntKind.bits .i64))))<r8.1) then some (Sum.inr false) else self3 (IntKind.wrap .i64 (x2+(1:Int))) else some (Sum.inl ())) (0:Int):Option ((Unit) ⊕ (Bool))).bind fun y=>match y with | .inl x9=> some (true,()) | .inr x9=> some (x9,()):=by kernel_rfl
def Rw:TC:=
 (zS [iK 1 0] (zQ (.seq (.join [⟨17,[.b],false⟩] 262016 none (zR [dw 7 1 2,dX 8 150 7,dX 9 193 8,kI 10 9,iJ 12 4 1 0 4,AB 14 1 2 4,XO 195 14 15 15 4,yK 194 13 15 16 16 4,tC 11 16 17])) (zC 17 (zS [aZ 2] .ret) .skip)) (zQ (.join [] 1125899906580532 (some [⟨2,[.b],false⟩]) (zS [bF 18 1 1,jR 20 19] (.block 0 (.loop [⟨21,[.i .i64],false⟩] 1125899904745524 (zS [eD 22 21 20] (zQ (zC 22 .skip (.exit 0)) (zQ (.join [] 562949945032756 (some [⟨2,[.b],false⟩]) (.block 1 (zS [jq 23 19 21 4 4,Ow 4 1000000005,df 4 4 24] (zQ (zS [bF 25 4 2,[o3 27 48 [.t 26,kO 0,kO 4]],iH 28 27] (zC 28 (zS [aZ 2] .ret) .skip)) (zS [dw 29 1 2,bF 30 4 2,fJ 32 154 29 31,bV 32 5 32] (zQ (.join [⟨48,[.b],false⟩] 562941363486720 none (zR [bF 33 4 3,kI 35 34,Oy 5 37 37 3,tN 38 3 4 0 3,mH 40 37 39 3,w_ 41 5 1 40 3,Oy 5 42 42 3,tN 43 3 4 1 3,mH 45 42 44 3,w_ 46 5 1 45 3,zEz 47 41 46 3,lF 36 47 48])) (zC 48 (zS [aZ 2] .ret) .skip))))))) (zR [l7 49 21])))))))) (zQ (.join [] 287104476244869188 (some [⟨2,[.b],false⟩]) (zS [kg 6 1] (.block 2 (.loop [⟨6,[.i .i64],false⟩] 287104476244869188 (zQ (zS [ai 50 6,zAy 51 50 4] (zC 51 .skip (.exit 2))) (zQ (.block 3 (zS [EP 54 1 2 6,fJ 56 196 54 55,iH 57 56] (zC 57 (zS [aZ 2] .ret) .skip))) (zR [dZ 52 6 6]))))))) (zS [gH 2] .ret)))))
def abV:aI:=⟨[.rd true qa],(.one false [.d])⟩
def Rx:aH:=aA [(150,sF),(193,Ij),(195,MN),(194,abT),(48,lm),(154,lM),(196,UL)]
def Ry (n:Nat):bK->Option ((Bool) × Unit):=aC n Rx Rw [bv] [.b] [] [2] .no
def uQ:=Ry BIG
def Ab:TSp:=⟨abV,[bv],[.b],[],Ou.j .no,uQ⟩
theorem amt:aM PG Rx 146 abV (Rw.ht 58) .no=some (Rw.wc Rx,[2]):=by kernel_rfl
theorem Bn:Ab.Ok PG 146:=aN (ae vE (ae PL (ae Y8 (ae akw (ae jW (ae mU (ae adV (aj PG)))))))) amt (by kernel_rfl)
theorem amu (n) (a0):Ry n a0 =
 ((iY a0).bind fun r0=>
  (xO r0.1).bind fun r1=>
  bif !r1.1 then
   some true
  else (z_ a0).bind fun r2=>
  (Rq (a0.1,r2.1)).bind fun r3=>
  some r3.1:Option (Bool)).bind fun x4=>
 bif x4 then
  some (false,())
 else (aJ n (X:=Int) (B:=(Unit) ⊕ (Bool)) (fun self6 x5=>
  bif decide (x5<(a0.2.length:Int)) then
   (bnd a0.2.length x5 fun n7=>
    a0.2[n7]?.bind fun y8=>
    (fq (y8.2.2.1,(0:Int),(4:Int))).bind fun r9=>
    bif !r9.1 then
     some (Sum.inr false)
    else (j_ (a0,y8.2.2.1)).bind fun r10=>
    (bif !y8.2.2.2 then
     bnd r10.1.length y8.1 fun n11=>
     r10.1[n11]?.bind fun y12=>
     bnd r10.1.length y8.2.1 fun n13=>
     r10.1[n13]?.bind fun y14=>
     some (!decide (y12=y14))
     else some false:Option (Bool)).bind fun x15=>
    bif x15 then
     some (Sum.inr false)
    else some (Sum.inl ()):Option ((Unit) ⊕ (Bool))).bind fun y=>match y with
   | .inl x16=>
    self6 (IntKind.wrap .i64 (x5+(1:Int)))
   | .inr x16=>
    some (Sum.inr x16)
  else some (Sum.inl ())) (0:Int):Option ((Unit) ⊕ (Bool))).bind fun y=>match y with
 | .inl x17=>
  (aJ n (X:=Int) (B:=(Unit) ⊕ (Bool)) (fun self19 x18=>
   bif decide (x18<=(4:Int)) then
    (II (a0,x18)).bind fun r20=>
    bif !r20.1 then
     some (Sum.inr false)
    else self19 (IntKind.wrap .i64 (x18+(1:Int)))
   else some (Sum.inl ())) (1:Int):Option ((Unit) ⊕ (Bool))).bind fun y=>match y with
  | .inl x21=>
   some (true,())
  | .inr x21=>
   some (x21,())
 | .inr x17=>
  some (x17,()):=by kernel_rfl
end
end Go.Fw
