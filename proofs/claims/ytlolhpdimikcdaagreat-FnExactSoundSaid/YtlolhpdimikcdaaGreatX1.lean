/- The given functions, as what they compute; each is shown to be what the code does. No conditions. -/
import Derived.Test.YtlolhpdimikcdaaGreatX0
set_option linter.unusedVariables false
set_option linter.unusedSimpArgs false
set_option linter.unusedSectionVars false
namespace Go.Fw
noncomputable section
def c_sHeadOk:TC:=
 (zS [zKh 1] (zQ (.seq (.join [⟨49,[.b],false⟩] 1125899906842368 none (zR [zIj 8 1 0 8,zBy 10 139 9 12,zJk 11 10,zIq 13 4 1 3 4,zEv 15 14 4,zKt 139 15 3 16 16 4 4 12,zKq 20 11 1 4,zKq 23 11 1 3,zJx 26 22 25 11 19,zAb 28 27,zKq 29 20 1 1,zIw 32 20 1 0,zJx 34 31 33 20 28,zAb 36 35,zIw 37 28 1 0,zIw 39 28 1 2,zEh 180 38 40 41 41 28,zJg 42 41 28 36,zKq 45 36 1 14,zDv 48 47 80 36,zBD 44 48 49])) (zC 49 (zS [zBo 2] .ret) .skip)) (zQ (.join [] 37778930737057254866956 (some [⟨2,[.b],false⟩]) (zS [zAa 3] (.block 0 (.loop [⟨3,[.i .i64],false⟩] 37778930737057254866956 (zQ (zS [zAb 50 3,zIf 51 1 3,zIk 53 52 50] (zC 54 .skip (.exit 0))) (zQ (.join [] 37778787747769085853700 (some [⟨2,[.b],false⟩]) (.block 1 (zQ (.join [⟨74,[.b],false⟩] 37778787747769085853696 none (zR [zAb 61 3,zIv 57 1 0 1 3,zIg 62 60 61 1 1,zIp 64 181 58 63,zKz 66 65 9 1 4 9,zLi 69 3 9 68 9,zDE 71 68 70 9,zEw 139 71 0 99991 72 72 9,zIt 73 72 9 66])) (zC 74 (zS [zBo 2] .ret) .skip)))) (zR [zIo 55 3 3]))))))) (zQ (.join [] 2475842299638897592636538900 (some [⟨2,[.b],false⟩]) (zS [zAa 4] (.block 2 (.loop [⟨4,[.i .i64],false⟩] 2475842299638897592636538900 (zQ (zS [zAb 75 4,zIf 76 1 0,zAg 78 75 77] (zC 78 .skip (.exit 2))) (zQ (.block 3 (zS [zAb 83 4,zIf 81 1 1,zIg 84 82 83 1 1,zJq 86 1 3,zEm 89 139 85 1 88,zBz 90 89] (zC 90 (zS [zBo 2] .ret) .skip))) (zR [zIo 79 4 4]))))))) (zQ (.join [] 664613995416577857881142980341923876 (some [⟨2,[.b],false⟩]) (zS [zAa 5] (.block 4 (.loop [⟨5,[.i .i64],false⟩] 664613995416577857881142980341923876 (zQ (zS [zAb 91 5,zIf 92 1 2,zIk 94 93 91] (zC 95 .skip (.exit 4))) (zQ (.block 5 (zS [zAb 102 5,zAb 112 5,zIv 98 1 1 1 2,zKx 103 101 102 2 1,zIg 106 99 105 1 1,zIv 108 1 1 1 2,zKc 113 111 112 2 1 1,zIg 116 109 115 1 1,zEb 118 107 117] (zC 118 (zS [zBo 2] .ret) .skip))) (zR [zIo 96 5 5]))))))) (zQ (.join [] 2854495384747305764224114002447086742625321156 (some [⟨2,[.b],false⟩]) (zS [zAa 6] (.block 6 (.loop [⟨6,[.i .i64],false⟩] 2854495384747305764224114002447086742625321156 (zQ (zS [zAb 119 6,zIf 120 1 14,zIk 122 121 119] (zC 123 .skip (.exit 6))) (zQ (.join [] 2854495300341328031881956073055338414823440516 (some [⟨2,[.b],false⟩]) (.block 7 (zS [zIf 126 1 14,zJa 128 6 127 6 6,zBd 7 1000000008,zAy 7 7 130] (zQ (.join [⟨150,[.b],false⟩] 2854492663152984394608864231902130818619801600 none (zR [zIf 131 7 0,zJt 133 7 1,zDB 136 132 135,zKz 137 136 6 7 5 6,zKt 139 139 3 140 140 6 6 137,zEx 144 1 15 12,zIw 145 12 7 0,zEh 142 144 146 147 147 12,zBA 148 6 12,zJx 149 147 148 12 143])) (zC 150 (zS [zBo 2] .ret) .skip))))) (zR [zIo 124 6 6]))))))) (zS [zJi 151 1 15 182,zAb 2 152] .ret)))))))
def s_sHeadOk:Sig:=⟨[.rd true Ct2],(.one false [.d])⟩
def E_sHeadOk:TEnv:=envOf [(139,p_sl01In),(180,p_sl05Edges),(181,p_sl09Labels),(142,p_sl12Said),(182,p_sl12TaskOk)]
def f_sHeadOk (n:Nat):Zt4->Option ((Bool) × Unit):=runFn n E_sHeadOk c_sHeadOk [Ty3] [.b] [] [2] .no
def g_sHeadOk:=f_sHeadOk BIG
def p_sHeadOk:TSp:=⟨s_sHeadOk,[Ty3],[.b],[],Ou.j .no,g_sHeadOk⟩
theorem k_sHeadOk:zK E_sHeadOk 141 s_sHeadOk c_sHeadOk 153 .no [2]:=by show _=_;kernel_rfl
theorem ok_sHeadOk:p_sHeadOk.Ok PG 141:=mkOk (env_cons ok_sl01In (env_cons ok_sl05Edges (env_cons ok_sl09Labels (env_cons ok_sl12Said (env_cons ok_sl12TaskOk (env_nil PG)))))) k_sHeadOk (by kernel_rfl)
theorem e_sHeadOk (n) (a0):f_sHeadOk n a0 =
 ((g_sl01In (a0.1,(1:Int),(12:Int))).bind fun r0=>
  bif !r0.1 then
   some true
  else (g_sl01In ((a0.2.2.2.1.length:Int),(1:Int),(3:Int))).bind fun r1=>
  bif !r1.1 then
   some true
  else bif !decide ((a0.2.2.2.2.1.length:Int)=(a0.2.2.2.1.length:Int)) then
   some true
  else bif !decide ((a0.2.1.length:Int)=a0.1) then
   some true
  else (g_sl05Edges (a0.1,a0.2.2.1)).bind fun r2=>
  bif !r2.1 then
   some true
  else some (decide (80<(a0.2.2.2.2.2.2.2.2.2.2.2.2.2.2.length:Int)))).bind fun x3=>
 bif x3 then
  some (false,())
 else (loopT n (X:=Int) (B:=(Unit) ⊕ (Bool)) (fun self5 x4=>
  bif decide (x4<(a0.2.2.2.1.length:Int)) then
   ((bnd a0.2.2.2.1.length x4 fun n6=>
    a0.2.2.2.1[n6]?.bind fun y7=>
    (g_sl09Labels (a0.1,y7)).bind fun r8=>
    bif !r8.1 then
     some true
    else bnd a0.2.2.2.2.1.length x4 fun n9=>
    a0.2.2.2.2.1[n9]?.bind fun y10=>
    (g_sl01In (y10,(0:Int),(99991:Int))).bind fun r11=>
    some !r11.1).bind fun x12=>
    bif x12 then
     some (Sum.inr false)
    else some (Sum.inl ())).bind fun y=>match y with
   | .inl x13=>
    self5 (IntKind.wrap .i64 (x4+1))
   | .inr x13=>
    some (Sum.inr x13)
  else some (Sum.inl ())) (0:Int)).bind fun y=>match y with
 | .inl x14=>
  (loopT n (X:=Int) (B:=(Unit) ⊕ (Bool)) (fun self16 x15=>
   bif decide (x15<a0.1) then
    bnd a0.2.1.length x15 fun n17=>
    a0.2.1[n17]?.bind fun y18=>
    (g_sl01In (y18,(1:Int),(a0.2.2.2.1.length:Int))).bind fun r19=>
    bif !r19.1 then
     some (Sum.inr false)
    else self16 (IntKind.wrap .i64 (x15+1))
   else some (Sum.inl ())) (0:Int)).bind fun y=>match y with
  | .inl x20=>
   (loopT n (X:=Int) (B:=(Unit) ⊕ (Bool)) (fun self22 x21=>
    bif decide (x21<(a0.2.2.1.length:Int)) then
     bnd a0.2.2.1.length x21 fun n23=>
     a0.2.2.1[n23]?.bind fun y24=>
     bnd a0.2.1.length y24.1 fun n25=>
     a0.2.1[n25]?.bind fun y26=>
     bnd a0.2.2.1.length x21 fun n27=>
     a0.2.2.1[n27]?.bind fun y28=>
     bnd a0.2.1.length y28.2 fun n29=>
     a0.2.1[n29]?.bind fun y30=>
     bif decide (y26=y30) then
      some (Sum.inr false)
     else self22 (IntKind.wrap .i64 (x21+1))
    else some (Sum.inl ())) (0:Int)).bind fun y=>match y with
   | .inl x31=>
    (loopT n (X:=Int) (B:=(Unit) ⊕ (Bool)) (fun self33 x32=>
     bif decide (x32<(a0.2.2.2.2.2.2.2.2.2.2.2.2.2.2.length:Int)) then
      (bnd a0.2.2.2.2.2.2.2.2.2.2.2.2.2.2.length x32 fun n34=>
       a0.2.2.2.2.2.2.2.2.2.2.2.2.2.2[n34]?.bind fun y35=>
       (bif !decide (y35.1=y35.2.1) then
        some true
        else (g_sl01In (y35.2.2.2.2.2,(1:Int),(3:Int))).bind fun r36=>
        bif !r36.1 then
         some true
        else (g_sl12Said (a0,y35.1)).bind fun r37=>
        some (!decide (r37.1=x32))).bind fun x38=>
       bif x38 then
        some (Sum.inr false)
       else some (Sum.inl ())).bind fun y=>match y with
      | .inl x39=>
       self33 (IntKind.wrap .i64 (x32+1))
      | .inr x39=>
       some (Sum.inr x39)
     else some (Sum.inl ())) (0:Int)).bind fun y=>match y with
    | .inl x40=>
     (g_sl12TaskOk a0).bind fun r41=>
     some (r41.1,())
    | .inr x40=>
     some (x40,())
   | .inr x31=>
    some (x31,())
  | .inr x20=>
   some (x20,())
 | .inr x14=>
  some (x14,()):=by kernel_rfl
def c_sBusy:TC:=
 (zS [zKh 1] (zS [zAn 3,zBw 4 3,zAo 5 1 9 4,zEy 6 5 0,zAb 2 6] .ret))
def s_sBusy:Sig:=⟨[.rd true Ct2],(.one false [.d])⟩
def E_sBusy:TEnv:=envOf []
def f_sBusy (n:Nat):Zt4->Option ((Bool) × Unit):=runFn n E_sBusy c_sBusy [Ty3] [.b] [] [2] .no
def g_sBusy:=f_sBusy BIG
def p_sBusy:TSp:=⟨s_sBusy,[Ty3],[.b],[],Ou.j .no,g_sBusy⟩
theorem k_sBusy:zK E_sBusy 101 s_sBusy c_sBusy 7 .no [2]:=by show _=_;kernel_rfl
theorem ok_sBusy:p_sBusy.Ok PG 101:=mkOk (env_nil PG) k_sBusy (by kernel_rfl)
theorem e_sBusy (n) (a0):f_sBusy n a0 = some (!decide (a0.2.2.2.2.2.2.2.2.2.1=0),()):=by kernel_rfl
def c_sl12Say:TC:=
 (zS [zDk 4 1] (zS [zEz 6,zEz 7,zAb 14 2,zEA 8 7,zBw 9 8,zEB 10 14 9,zIf 11 4 0,zAx 13 4 4,zEC 15 12 13 14,zED 16 15,zDc 10 10 16 17 10 10 0 17,zIn 18 6,zDd 0 17 10 0 14 19 17] (zR [zEz 20,zEE 21,zIn 22 20,zDi 0 21 0 5 23 21])))
def s_sl12Say:Sig:=⟨[.mp Ct2,.rd true [.d,.d,.d,.d],.rd false [.d]],.u⟩
def E_sl12Say:TEnv:=envOf []
def f_sl12Say (n:Nat):Zt4 × Zt19 × Int->Option ((Unit) × Int × List Int × List Zt20 × List (List Int) × List Int × Int × Int × Int × Int × Int × Int × Int × List Zt20 × Int × List Zt14):=runFn n E_sl12Say c_sl12Say [Ty3,Ty19,[.i .i64]] [] Ty3 [] (.mp 0)
def g_sl12Say:=f_sl12Say BIG
def p_sl12Say:TSp:=⟨s_sl12Say,[Ty3,Ty19,[.i .i64]],[],Ty3,Ou.j (.mp 0),g_sl12Say⟩
theorem k_sl12Say:zK E_sl12Say 144 s_sl12Say c_sl12Say 24 (.mp 0) []:=by show _=_;kernel_rfl
theorem ok_sl12Say:p_sl12Say.Ok PG 144:=mkOk (env_nil PG) k_sl12Say (by kernel_rfl)
theorem e_sl12Say (n) (a0) (a1) (a2):f_sl12Say n (a0,a1,a2) = bif decide (a0.2.2.2.2.2.2.2.2.2.2.2.2.2.2.length+([(a1.1,a1.1,a1.2.1,a1.2.2.1,a1.2.2.2,a2)]).length<=4294967296) then some ((),(a0.1,a0.2.1,a0.2.2.1,a0.2.2.2.1,a0.2.2.2.2.1,(0:Int),(0:Int),(0:Int),(0:Int),(0:Int),(0:Int),(0:Int),[],(0:Int),a0.2.2.2.2.2.2.2.2.2.2.2.2.2.2++([(a1.1,a1.1,a1.2.1,a1.2.2.1,a1.2.2.2,a2)]))) else none:=by kernel_rfl
def c_sWholeLabels:TC:=
 (zS [zAr 6,zBo 7] (zS [zDe 12,zAs 12 8 12] (zQ (.seq (.join [⟨25,[.b],false⟩] 67100672 none (zR [zAb 13 0,zBy 14 139 13 12,zJk 15 14,zBA 17 1 3,zEv 18 17 3,zDv 19 18 3 3,zBD 16 19 20,zAb 21 20,zBA 22 2 8,zEv 23 22 8,zDv 24 23 1000 8,zBD 21 24 25])) (zC 25 (zS [zBt 26,zAs 26 6 26,zBo 7] .ret) .skip)) (zQ (.join [⟨8,[.sl [.i .i64,.i .i64]],false⟩] 302231454903657159460800 (some [⟨6,[.sl [.i .i64]],false⟩,⟨7,[.b],false⟩]) (zS [zAa 9] (.block 0 (.loop [⟨8,[.sl [.i .i64,.i .i64]],false⟩,⟨9,[.i .i64],false⟩] 302231454903657159460800 (zQ (zS [zIr 27 9 1] (zC 30 .skip (.exit 0))) (zQ (.join [⟨8,[.sl [.i .i64,.i .i64]],false⟩] 302231454903648703743424 (some [⟨6,[.sl [.i .i64]],false⟩,⟨7,[.b],false⟩]) (.block 1 (zQ (zS [zIE 33 1 9 1 1,zAc 37 36,zAb 38 0,zDB 39 37 38] (zC 39 (zS [zBt 40,zAs 40 6 40,zBo 7] .ret) .skip)) (zS [zAa 10] (.block 2 (.loop [⟨8,[.sl [.i .i64,.i .i64]],false⟩,⟨10,[.i .i64],false⟩] 302231454901458270422464 (zQ (zS [zKC 41 10 0] (zC 43 .skip (.exit 2))) (zQ (.join [⟨8,[.sl [.i .i64,.i .i64]],false⟩] 302231454833288549499328 (some [⟨6,[.sl [.i .i64]],false⟩,⟨7,[.b],false⟩]) (.block 3 (zQ (zS [zIE 46 1 9 1 1,zJa 50 10 49 1 1,zAb 53 10,zDC 54 139 52 53,zBz 55 54] (zC 55 (zS [zBt 56,zAs 56 6 56,zBo 7] .ret) .skip)) (zS [zIE 57 1 9 1 1,zJa 61 10 60 1 1,zAb 64 10,zAg 65 63 64] (zC 65 (zR [zAs 8 66 8,zIE 67 1 9 1 1,zJa 71 10 70 1 1,zAb 74 10,zGa 75 73 74,zLb 76 75 66 66 8]) .skip))))) (zR [zIi 44 10,zAb 10 45]))))))))) (zR [zIo 31 9 9]))))))) (zQ (.join [⟨8,[.sl [.i .i64,.i .i64]],false⟩] 633824997882659797091057928640 (some [⟨6,[.sl [.i .i64]],false⟩,⟨7,[.b],false⟩]) (zS [zAa 11] (.block 4 (.loop [⟨8,[.sl [.i .i64,.i .i64]],false⟩,⟨11,[.i .i64],false⟩] 633824997882659797091057928640 (zQ (zS [zIr 78 11 2] (zC 81 .skip (.exit 4))) (zQ (.block 5 (zQ (zS [zJv 84 0 2 11 2 2,zIp 89 157 84 88] (zC 90 (zS [zBt 91,zAs 91 6 91,zBo 7] .ret) .skip)) (zR [zAs 8 92 8,zIE 93 2 11 2 2,zLb 97 96 92 92 8]))) (zR [zIi 82 11,zAb 11 83]))))))) (zS [zAb 99 0,zAs 8 100 8,zAj 101 140 99 100,zAs 101 6 101,zDh 7] .ret))))))
def s_sWholeLabels:Sig:=⟨[.rd false [.d],.rd false Ct11,.rd false Ct20],(.tup [(false,1),(false,1)] [.sl (.own none) [.d],.d])⟩
def E_sWholeLabels:TEnv:=envOf [(139,p_sl01In),(157,p_sEdgeOk),(140,p_sl05Labels)]
def f_sWholeLabels (n:Nat):Int × List (List Int) × (List Zt20)->Option ((List Int × Bool) × Unit):=runFn n E_sWholeLabels c_sWholeLabels [[.i .i64],[.sl [.sl [.i .i64]]],[.sl [.i .i64,.i .i64]]] [.sl [.i .i64],.b] [] [6,7] .no
def g_sWholeLabels:=f_sWholeLabels BIG
def p_sWholeLabels:TSp:=⟨s_sWholeLabels,[[.i .i64],[.sl [.sl [.i .i64]]],[.sl [.i .i64,.i .i64]]],[.sl [.i .i64],.b],[],Ou.j .no,g_sWholeLabels⟩
theorem k_sWholeLabels:zK E_sWholeLabels 102 s_sWholeLabels c_sWholeLabels 102 .no [6,7]:=by show _=_;kernel_rfl
theorem ok_sWholeLabels:p_sWholeLabels.Ok PG 102:=mkOk (env_cons ok_sl01In (env_cons ok_sEdgeOk (env_cons ok_sl05Labels (env_nil PG)))) k_sWholeLabels (by kernel_rfl)
theorem e_sWholeLabels (n) (a0) (a1) (a2):f_sWholeLabels n (a0,a1,a2) =
 ((g_sl01In (a0,(1:Int),(12:Int))).bind fun r0=>
  bif !r0.1 then
   some true
  else bif decide (3<(a1.length:Int)) then
   some true
  else some (decide (1000<(a2.length:Int)))).bind fun x1=>
 bif x1 then
  some (([],false),())
 else (loopT n (X:=(List Zt20) × Int) (B:=((List Zt20)) ⊕ ((List Int) × Bool)) (fun self3 x2=>
  bif decide (x2.2<(a1.length:Int)) then
   (bnd a1.length x2.2 fun n4=>
    a1[n4]?.bind fun y5=>
    bif !decide ((y5.length:Int)=a0) then
     some (Sum.inr ([],false))
    else loopT n (X:=(List Zt20) × Int) (B:=((List Zt20)) ⊕ ((List Int) × Bool)) (fun self7 x6=>
     bif decide (x6.2<a0) then
      (bnd a1.length x2.2 fun n8=>
       a1[n8]?.bind fun y9=>
       bnd y9.length x6.2 fun n10=>
       y9[n10]?.bind fun y11=>
       (g_sl01In (y11,(0:Int),x6.2)).bind fun r12=>
       bif !r12.1 then
        some (Sum.inr ([],false))
       else bnd a1.length x2.2 fun n13=>
       a1[n13]?.bind fun y14=>
       bnd y14.length x6.2 fun n15=>
       y14[n15]?.bind fun y16=>
       bif decide (y16<x6.2) then
        bnd a1.length x2.2 fun n17=>
        a1[n17]?.bind fun y18=>
        bnd y18.length x6.2 fun n19=>
        y18[n19]?.bind fun y20=>
        bif decide (x6.1.length+([(y20,x6.2)]).length<=4294967296) then
         some (Sum.inl (x6.1++([(y20,x6.2)])))
        else none
       else some (Sum.inl x6.1):Option (((List Zt20)) ⊕ ((List Int) × Bool))).bind fun y=>match y with
      | .inl x21=>
       self7 (x21,IntKind.wrap .i64 (x6.2+1))
      | .inr x21=>
       some (Sum.inr (x21.1,x21.2))
     else some (Sum.inl x6.1)) (x2.1,(0:Int)):Option (((List Zt20)) ⊕ ((List Int) × Bool))).bind fun y=>match y with
   | .inl x22=>
    self3 (x22,IntKind.wrap .i64 (x2.2+1))
   | .inr x22=>
    some (Sum.inr (x22.1,x22.2))
  else some (Sum.inl x2.1)) ([],(0:Int))).bind fun y=>match y with
 | .inl x23=>
  (loopT n (X:=(List Zt20) × Int) (B:=((List Zt20)) ⊕ ((List Int) × Bool)) (fun self25 x24=>
   bif decide (x24.2<(a2.length:Int)) then
    bnd a2.length x24.2 fun n26=>
    a2[n26]?.bind fun y27=>
    (g_sEdgeOk (a0,y27)).bind fun r28=>
    bif !r28.1 then
     some (Sum.inr ([],false))
    else bnd a2.length x24.2 fun n29=>
    a2[n29]?.bind fun y30=>
    bif decide (x24.1.length+[y30].length<=4294967296) then
     self25 (x24.1++[y30],IntKind.wrap .i64 (x24.2+1))
    else none
   else some (Sum.inl x24.1)) (x23,(0:Int))).bind fun y=>match y with
  | .inl x31=>
   (g_sl05Labels (a0,x31)).bind fun r32=>
   some ((r32.1,true),())
  | .inr x31=>
   some (x31,())
 | .inr x23=>
  some (x23,()):=by kernel_rfl
def c_sl12Task:TC:=
 (zS [zDk 5 1,[o5 (.a (.t 3)) 7 3],zAa 8] (zS [zEz 9,zIC 10 9 4,zAb 13 2,zEn 14 13,zKv 15 12 14 0 4 1 1,zAk 17 16,zAn 18,zGd 7 7 0 18 17] (zS [zJE 19 5 4,zAb 21 2,zBa 22 7 4,zGe,zIn 24 19,zGf] (zS [zGg 8 2] .ret))))
def s_sl12Task:Sig:=⟨[.mp Ct2,.rd true [.d,.d,.d,.d],.rd false [.d],.tk true Ct14],(.one false [.d])⟩
def E_sl12Task:TEnv:=envOf []
def f_sl12Task (n:Nat):Zt4 × Zt19 × Int × Zt13->Option ((Int) × Int × List Int × List Zt20 × List (List Int) × List Int × Int × Int × Int × Int × Int × Int × Int × List Zt20 × Int × List Zt14):=runFn n E_sl12Task c_sl12Task [Ty3,Ty19,[.i .i64],Ty14] [.i .i64] Ty3 [8] (.mp 0)
def g_sl12Task:=f_sl12Task BIG
def p_sl12Task:TSp:=⟨s_sl12Task,[Ty3,Ty19,[.i .i64],Ty14],[.i .i64],Ty3,Ou.j (.mp 0),g_sl12Task⟩
theorem k_sl12Task:zK E_sl12Task 145 s_sl12Task c_sl12Task 26 (.mp 0) [8]:=by show _=_;kernel_rfl
theorem ok_sl12Task:p_sl12Task.Ok PG 145:=mkOk (env_nil PG) k_sl12Task (by kernel_rfl)
theorem e_sl12Task (n) (a0) (a1) (a2) (a3):f_sl12Task n (a0,a1,a2,a3) = bnd a0.2.2.2.2.1.length (IntKind.wrap .i64 (a2-1)) fun n0=> a0.2.2.2.2.1[n0]?.bind fun y1=> some ((2:Int),(a0.1,a0.2.1,a0.2.2.1,a0.2.2.2.1,a0.2.2.2.2.1,a1.1,a1.2.1,a1.2.2.1,a1.2.2.2,a2,IntKind.wrap .i64 (y1+1),a3.2.1,a3.2.2.1,a3.2.2.2,a0.2.2.2.2.2.2.2.2.2.2.2.2.2.2)):=by kernel_rfl
def c_sl12Edge:TC:=
 (zS [zAm 1,zAv 2 1000000003] (zQ (zS [zLd 3 1 2 3 5 1 3 5,zAg 7 4 6] (zC 7 (zS [zIj 8 1 2 8,zIf 10 1 3,zGa 12 9 11,zAy 2 2 12] .ret) .skip)) (zS [zIv 13 1 3 1 2,zGa 17 14 16,zAy 2 2 17] .ret)))
def s_sl12Edge:Sig:=⟨[.rd true [.d,.d,.d,.d]],(.one true [.d,.d])⟩
def E_sl12Edge:TEnv:=envOf []
def f_sl12Edge (n:Nat):Zt19->Option (Zt20 × Unit):=runFn n E_sl12Edge c_sl12Edge [Ty19] [.i .i64,.i .i64] [] [2] .no
def g_sl12Edge:=f_sl12Edge BIG
def p_sl12Edge:TSp:=⟨s_sl12Edge,[Ty19],[.i .i64,.i .i64],[],Ou.j .no,g_sl12Edge⟩
theorem k_sl12Edge:zK E_sl12Edge 152 s_sl12Edge c_sl12Edge 18 .no [2]:=by show _=_;kernel_rfl
theorem ok_sl12Edge:p_sl12Edge.Ok PG 152:=mkOk (env_nil PG) k_sl12Edge (by kernel_rfl)
theorem e_sl12Edge (n) (a0):f_sl12Edge n a0 = bif decide (a0.2.2.1<a0.2.2.2) then some (a0.2.2,()) else some ((a0.2.2.2,a0.2.2.1),()):=by kernel_rfl
def c_sl05Has:TC:=
 (zS [zJp 3 1] (zQ (.join [] 262128 (some [⟨4,[.b],false⟩]) (zS [zAa 5] (.block 0 (.loop [⟨5,[.i .i64],false⟩] 262128 (zQ (zS [zKs 6 5 0 8,zAg 9 6 8] (zC 9 .skip (.exit 0))) (zQ (.block 1 (zS [zIE 12 0 5 2 2,zAx 16 3 2,[o1 17 (.eqA [.i,.i] (.t 15) (.t 16) false)]] (zC 17 (zS [zDh 4] .ret) .skip))) (zR [zIo 10 5 5]))))))) (zS [zBo 4] .ret)))
def s_sl05Has:Sig:=⟨[.rd false Ct20,.rd true [.d,.d]],(.one false [.d])⟩
def E_sl05Has:TEnv:=envOf []
def f_sl05Has (n:Nat):(List Zt20) × Zt20->Option ((Bool) × Unit):=runFn n E_sl05Has c_sl05Has [[.sl [.i .i64,.i .i64]],[.i .i64,.i .i64]] [.b] [] [4] .no
def g_sl05Has:=f_sl05Has BIG
def p_sl05Has:TSp:=⟨s_sl05Has,[[.sl [.i .i64,.i .i64]],[.i .i64,.i .i64]],[.b],[],Ou.j .no,g_sl05Has⟩
theorem k_sl05Has:zK E_sl05Has 155 s_sl05Has c_sl05Has 18 .no [4]:=by show _=_;kernel_rfl
theorem ok_sl05Has:p_sl05Has.Ok PG 155:=mkOk (env_nil PG) k_sl05Has (by kernel_rfl)
theorem e_sl05Has (n) (a0) (a1):f_sl05Has n (a0,a1) = (loopT n (X:=Int) (B:=(Unit) ⊕ (Bool)) (fun self1 x0=> bif decide (x0<(a0.length:Int)) then bnd a0.length x0 fun n2=> a0[n2]?.bind fun y3=> bif (decide (y3.1=a1.1)&&(decide (y3.2=a1.2)&&true)) then some (Sum.inr true) else self1 (IntKind.wrap .i64 (x0+1)) else some (Sum.inl ())) (0:Int)).bind fun y=>match y with | .inl x4=> some (false,()) | .inr x4=> some (x4,()):=by kernel_rfl
def c_sl05Without:TC:=
 (zS [zDk 3 1,zAz 4] (zS [zDe 7,zAs 7 5 7] (zQ (.join [⟨5,[.sl [.i .i64,.i .i64]],false⟩] 134217568 none (zS [zAa 6] (.block 0 (.loop [⟨5,[.sl [.i .i64,.i .i64]],false⟩,⟨6,[.i .i64],false⟩] 134217568 (zQ (zS [zJC 8 6 0 8] (zC 11 .skip (.exit 0))) (zQ (.join [⟨5,[.sl [.i .i64,.i .i64]],false⟩] 134201376 none (.block 1 (zS [zIE 14 0 6 2 2,zAx 18 3 2,zEc 19 17 18] (zC 19 (zR [zAs 5 20 5,zIE 21 0 6 2 2,zLb 25 24 20 20 5]) .skip)))) (zR [zIo 12 6 6]))))))) (zS [zJb 5 27 5 4] .ret))))
def s_sl05Without:Sig:=⟨[.rd false Ct20,.rd true [.d,.d]],(.one false Ct20)⟩
def E_sl05Without:TEnv:=envOf []
def f_sl05Without (n:Nat):(List Zt20) × Zt20->Option ((List Zt20) × Unit):=runFn n E_sl05Without c_sl05Without [[.sl [.i .i64,.i .i64]],[.i .i64,.i .i64]] [.sl [.i .i64,.i .i64]] [] [4] .no
def g_sl05Without:=f_sl05Without BIG
def p_sl05Without:TSp:=⟨s_sl05Without,[[.sl [.i .i64,.i .i64]],[.i .i64,.i .i64]],[.sl [.i .i64,.i .i64]],[],Ou.j .no,g_sl05Without⟩
theorem k_sl05Without:zK E_sl05Without 183 s_sl05Without c_sl05Without 28 .no [4]:=by show _=_;kernel_rfl
theorem ok_sl05Without:p_sl05Without.Ok PG 183:=mkOk (env_nil PG) k_sl05Without (by kernel_rfl)
theorem e_sl05Without (n) (a0) (a1):f_sl05Without n (a0,a1) = (loopT n (X:=(List Zt20) × Int) (B:=(List Zt20)) (fun self1 x0=> bif decide (x0.2<(a0.length:Int)) then (bnd a0.length x0.2 fun n2=> a0[n2]?.bind fun y3=> bif !(decide (y3.1=a1.1)&&(decide (y3.2=a1.2)&&true)) then bnd a0.length x0.2 fun n4=> a0[n4]?.bind fun y5=> bif decide (x0.1.length+[y5].length<=4294967296) then some (x0.1++[y5]) else none else some x0.1:Option ((List Zt20))).bind fun x6=> self1 (x6,IntKind.wrap .i64 (x0.2+1)) else some x0.1) ([],(0:Int))).bind fun x7=> some (x7,()):=by kernel_rfl
def c_sl05Put:TC:=
 (zS [zDk 3 1,zAz 4] (zS [zDe 8,zAs 8 5 8] (zQ (.join [⟨5,[.sl [.i .i64,.i .i64]],false⟩] 268435040 none (zS [zAa 6] (.block 0 (.loop [⟨5,[.sl [.i .i64,.i .i64]],false⟩,⟨6,[.i .i64],false⟩] 268435040 (zQ (zS [zJC 9 6 0 9] (zC 12 .skip (.exit 0))) (zQ (.join [⟨5,[.sl [.i .i64,.i .i64]],false⟩] 268402720 none (.block 1 (zS [zIE 15 0 6 2 2,zJs 19 3 2 185 18] (zC 20 (zR [zAs 5 21 5,zIE 22 0 6 2 2,zLb 26 25 21 21 5]) .skip)))) (zR [zIo 13 6 6]))))))) (zS [zAs 5 28 5,zAx 29 3 2,zLb 30 29 28 28 5] (zQ (.join [⟨5,[.sl [.i .i64,.i .i64]],false⟩] 2251795518718112 none (zS [zAa 7] (.block 2 (.loop [⟨5,[.sl [.i .i64,.i .i64]],false⟩,⟨7,[.i .i64],false⟩] 2251795518718112 (zQ (zS [zIr 32 7 0] (zC 35 .skip (.exit 2))) (zQ (.join [⟨5,[.sl [.i .i64,.i .i64]],false⟩] 2251524935778336 none (.block 3 (zS [zIh 39 0 7,zAx 38 3 2,zIg 41 39 40 2 2,zAj 43 185 38 42] (zC 43 (zR [zAs 5 44 5,zIE 45 0 7 2 2,zLb 49 48 44 44 5]) .skip)))) (zR [zIo 36 7 7]))))))) (zS [zJb 5 51 5 4] .ret))))))
def s_sl05Put:Sig:=⟨[.rd false Ct20,.rd true [.d,.d]],(.one false Ct20)⟩
def E_sl05Put:TEnv:=envOf [(185,p_sl05Less)]
def f_sl05Put (n:Nat):(List Zt20) × Zt20->Option ((List Zt20) × Unit):=runFn n E_sl05Put c_sl05Put [[.sl [.i .i64,.i .i64]],[.i .i64,.i .i64]] [.sl [.i .i64,.i .i64]] [] [4] .no
def g_sl05Put:=f_sl05Put BIG
def p_sl05Put:TSp:=⟨s_sl05Put,[[.sl [.i .i64,.i .i64]],[.i .i64,.i .i64]],[.sl [.i .i64,.i .i64]],[],Ou.j .no,g_sl05Put⟩
theorem k_sl05Put:zK E_sl05Put 156 s_sl05Put c_sl05Put 52 .no [4]:=by show _=_;kernel_rfl
theorem ok_sl05Put:p_sl05Put.Ok PG 156:=mkOk (env_cons ok_sl05Less (env_nil PG)) k_sl05Put (by kernel_rfl)
theorem e_sl05Put (n) (a0) (a1):f_sl05Put n (a0,a1) = (loopT n (X:=(List Zt20) × Int) (B:=(List Zt20)) (fun self1 x0=> bif decide (x0.2<(a0.length:Int)) then (bnd a0.length x0.2 fun n2=> a0[n2]?.bind fun y3=> (g_sl05Less (y3,a1)).bind fun r4=> bif r4.1 then bnd a0.length x0.2 fun n5=> a0[n5]?.bind fun y6=> bif decide (x0.1.length+[y6].length<=4294967296) then some (x0.1++[y6]) else none else some x0.1:Option ((List Zt20))).bind fun x7=> self1 (x7,IntKind.wrap .i64 (x0.2+1)) else some x0.1) ([],(0:Int))).bind fun x8=> bif decide (x8.length+[a1].length<=4294967296) then (loopT n (X:=(List Zt20) × Int) (B:=(List Zt20)) (fun self10 x9=> bif decide (x9.2<(a0.length:Int)) then (bnd a0.length x9.2 fun n11=> a0[n11]?.bind fun y12=> (g_sl05Less (a1,y12)).bind fun r13=> bif r13.1 then bnd a0.length x9.2 fun n14=> a0[n14]?.bind fun y15=> bif decide (x9.1.length+[y15].length<=4294967296) then some (x9.1++[y15]) else none else some x9.1:Option ((List Zt20))).bind fun x16=> self10 (x16,IntKind.wrap .i64 (x9.2+1)) else some x9.1) (x8++[a1],(0:Int))).bind fun x17=> some (x17,()) else none:=by kernel_rfl
def c_sl12Change:TC:=
 (zS [zDk 3 1,zAa 4] (zS [zLe 8 3 4 152 8,zAv 5 1000000006,zAy 5 5 9] (zS [zGg 6 1] (zQ (.join [⟨6,[.i .i64],false⟩] 7232 none (zS [zJy 10 3 1 2] (zC 12 (zR [zGg 6 2]) .skip))) (zQ (zS [zEz 13,zEz 21,zIC 14 13 1,zIf 17 5 0,zKv 19 16 18 0 1 1 1,zIC 22 21 1,zIf 25 5 1,zKv 27 24 26 0 1 1 1,zEb 29 20 28] (zC 29 (zS [zEz 30,zEz 32,zAb 40 6,zAx 31 3 4,zIC 33 32 1,zIf 36 5 0,zKv 38 35 37 0 1 1 1,zAx 41 5 2,zGb 42 41,[o5 (.build Ty14 [(1,.t 40),(2,.t 42)]) 43 42,⟨false,[],[],.call 3 145 [.t 0,.t 31,.t 39,.t 43] (.mp 0),[44,0,43,16,19,24,27,38,35],(some 44),none⟩],zAb 4 44] .ret) .skip)) (zS [zKr 45 2,zJs 49 5 2 155 48,zAb 7 50] (zQ (zS [zAb 51 7,zJy 52 3 1 1,[o1 55 (.data (.beq false) [.t 51,.t 54])]] (zC 55 (zS [zJE 56 3 4,[⟨false,[],[],.call 2 144 [.t 0,.t 57,kO 2] (.mp 0),[58,0,16,19,24,27,48],(some 58),none⟩]] (zS [zGg 4 1] .ret)) .skip)) (zQ (.join [⟨0,Ty3,false⟩] 302230878724380118548481 none (zS [zAb 59 7] (zC 59 (zR [zEz 60,zKr 61 2,zJs 65 5 2 183 64,zIn 67 60,zGh 66 64 68 66]) (zR [zEz 69,zKr 70 2,zJs 74 5 2 156 73,zIn 76 69,zGh 75 73 77 75])))) (zS [zJE 78 3 4,zGi 144 79 1 80 80] (zS [zGg 4 1] .ret))))))))))
def s_sl12Change:Sig:=⟨[.mp Ct2,.rd true [.d,.d,.d,.d]],(.one false [.d])⟩
def E_sl12Change:TEnv:=envOf [(152,p_sl12Edge),(145,p_sl12Task),(155,p_sl05Has),(144,p_sl12Say),(183,p_sl05Without),(156,p_sl05Put)]
def f_sl12Change (n:Nat):Zt4 × Zt19->Option ((Int) × Int × List Int × List Zt20 × List (List Int) × List Int × Int × Int × Int × Int × Int × Int × Int × List Zt20 × Int × List Zt14):=runFn n E_sl12Change c_sl12Change [Ty3,Ty19] [.i .i64] Ty3 [4] (.mp 0)
def g_sl12Change:=f_sl12Change BIG
def p_sl12Change:TSp:=⟨s_sl12Change,[Ty3,Ty19],[.i .i64],Ty3,Ou.j (.mp 0),g_sl12Change⟩
theorem k_sl12Change:zK E_sl12Change 146 s_sl12Change c_sl12Change 81 (.mp 0) [4]:=by show _=_;kernel_rfl
theorem ok_sl12Change:p_sl12Change.Ok PG 146:=mkOk (env_cons ok_sl12Edge (env_cons ok_sl12Task (env_cons ok_sl05Has (env_cons ok_sl12Say (env_cons ok_sl05Without (env_cons ok_sl05Put (env_nil PG))))))) k_sl12Change (by kernel_rfl)
theorem e_sl12Change (n) (a0) (a1):f_sl12Change n (a0,a1) = (g_sl12Edge a1).bind fun r0=> (bif decide (a1.2.1=2) then some (2:Int) else some (1:Int)).bind fun x1=> bnd a0.2.1.length r0.1.1 fun n2=> a0.2.1[n2]?.bind fun y3=> bnd a0.2.1.length r0.1.2 fun n4=> a0.2.1[n4]?.bind fun y5=> bif decide (y3=y5) then bnd a0.2.1.length r0.1.1 fun n6=> a0.2.1[n6]?.bind fun y7=> (g_sl12Task (a0,a1,y7,((0:Int),x1,[r0.1],(0:Int)))).bind fun r8=> some (r8.1,r8.2) else (g_sl05Has (a0.2.2.1,r0.1)).bind fun r9=> bif (r9.1 == (decide (a1.2.1=1))) then (g_sl12Say (a0,a1,(2:Int))).bind fun r10=> some ((1:Int),r10.2) else (bif r9.1 then (g_sl05Without (a0.2.2.1,r0.1)).bind fun r11=> some (a0.1,a0.2.1,r11.1,a0.2.2.2) else (g_sl05Put (a0.2.2.1,r0.1)).bind fun r12=> some (a0.1,a0.2.1,r12.1,a0.2.2.2)).bind fun x13=> (g_sl12Say (x13,a1,(1:Int))).bind fun r14=> some ((1:Int),r14.2):=by kernel_rfl
def c_sTake:TC:=
 (zS [zAm 2,zDk 3 1,zBe 4 1000000005,zAa 5] (zS [zJi 12 2 15 96,zBe 6 1000000007,zDa 6 13 6 13] (zQ (.seq (.join [⟨39,[.b],false⟩] 1099511611392 none (zR [zAx 14 2 15,zAA 15 141 14,zJk 16 15,zIq 18 3 3 0 3,zKt 139 19 100000 20 20 3 3 17,zEx 24 2 15 9,zIq 25 9 3 0 9,zEh 142 24 26 27 27 9,zGj 28 27 0 9,zBD 23 28 29,zAb 30 29,zEx 31 2 15 16,zGk 101 31 32 32 16,zBD 30 32 33,zAb 34 33,zKq 35 20 2 14,zGj 38 37 80 20,zBD 34 38 39])) (zC 39 (zS [zIm 40 6 15 4 4 6,zAa 5] .ret) .skip)) (zQ (zS [zAx 41 2 15,zAx 42 3 4,zIp 43 143 41 42] (zC 44 (zS [zAx 45 3 4,zGm 144 6 45 3 46 6 46] (zS [zIm 47 6 15 4 4 6,zGg 5 1] .ret)) .skip)) (zQ (zS [zIf 48 3 1] (.block 0 (zS [zEi 51 49 3,zAb 50 51] (zC 50 (zS [zIv 53 2 0 2 3,zIf 57 2 2,zGn 59 102 54 56 58,zJA 59 52 59 1 1,zAs 60 7 60,zAb 8 61] (zS [zGg 9 2] (zQ (.join [⟨9,[.i .i64],false⟩] 9440121279720863040000 none (zS [zAt 62 7,zAt 67 7,zIf 63 3 2,zJh 65 62 64 7 1 1,zIf 68 3 3,zJh 70 67 69 7 1 1,zEb 72 66 71] (zC 72 (zR [zGg 9 1]) .skip))) (zS [zAx 73 3 4,zAb 74 9,zGq 144 6 73 74 75 6 75] (zS [zIm 76 6 15 4 4 6,zGg 5 1] .ret))))) (zS [zEi 78 49 4,zAb 77 78] (zC 77 (zQ (zS [zIv 79 2 1 3 2,zIg 83 80 82 1 1,zIf 85 3 3,zEb 87 84 86] (zC 87 (zS [zAx 88 3 4,zGm 144 6 88 2 89 6 89] (zS [zIm 90 6 15 4 4 6,zGg 5 1] .ret)) .skip)) (zS [zGr 1000000002 3 4 91 91,zID 1000000002 92 92 2 1,zID 1000000002 94 94 3 2,zGu 93 95 96 96,zGv 93 0 96 97 97,zIf 98 3 2,zGw 99 100,zGx 145 6 91 97 100 101 6 100 101,zAb 10 101] (zS [zBa 102 6 15,zAb 103 10,zBb 102 4 102 4 102 102 6,zAb 5 103] .ret))) .skip)))))) (zS [zAx 104 3 4,zGy 146 104 105 105,zAb 11 105] (zS [zBa 106 6 15,zAb 107 11,zBb 106 4 106 4 106 106 6,zAb 5 107] .ret)))))))
def s_sTake:Sig:=⟨[.rd true Ct2,.rd true [.d,.d,.d,.d]],(.tup [(true,15),(false,1)] Ct1)⟩
def E_sTake:TEnv:=envOf [(96,p_sl12Copy),(141,p_sHeadOk),(139,p_sl01In),(142,p_sl12Said),(101,p_sBusy),(143,p_sl12Right),(144,p_sl12Say),(102,p_sWholeLabels),(145,p_sl12Task),(146,p_sl12Change)]
def f_sTake (n:Nat):Zt4 × Zt19->Option (Zt3 × Unit):=runFn n E_sTake c_sTake [Ty3,Ty19] Ty1 [] [4,5] .no
def g_sTake:=f_sTake BIG
def p_sTake:TSp:=⟨s_sTake,[Ty3,Ty19],Ty1,[],Ou.j .no,g_sTake⟩
theorem k_sTake:zK E_sTake 94 s_sTake c_sTake 108 .no [4,5]:=by show _=_;kernel_rfl
theorem ok_sTake:p_sTake.Ok PG 94:=mkOk (env_cons ok_sl12Copy (env_cons ok_sHeadOk (env_cons ok_sl01In (env_cons ok_sl12Said (env_cons ok_sBusy (env_cons ok_sl12Right (env_cons ok_sl12Say (env_cons ok_sWholeLabels (env_cons ok_sl12Task (env_cons ok_sl12Change (env_nil PG))))))))))) k_sTake (by kernel_rfl)
theorem e_sTake (n) (a0) (a1):f_sTake n (a0,a1) = (g_sl12Copy a0).bind fun r0=> ((g_sHeadOk a0).bind fun r1=> bif !r1.1 then some true else (g_sl01In (a1.1,(1:Int),(100000:Int))).bind fun r2=> bif !r2.1 then some true else (g_sl12Said (a0,a1.1)).bind fun r3=> bif decide (0<=r3.1) then some true else (g_sBusy a0).bind fun r4=> bif r4.1 then some true else some (decide (80<=(a0.2.2.2.2.2.2.2.2.2.2.2.2.2.2.length:Int)))).bind fun x5=> bif x5 then some ((r0.1.1,r0.1.2.1,r0.1.2.2.1,r0.1.2.2.2.1,r0.1.2.2.2.2.1,r0.1.2.2.2.2.2.1,r0.1.2.2.2.2.2.2.1,r0.1.2.2.2.2.2.2.2.1,r0.1.2.2.2.2.2.2.2.2.1,r0.1.2.2.2.2.2.2.2.2.2.1,r0.1.2.2.2.2.2.2.2.2.2.2.1,r0.1.2.2.2.2.2.2.2.2.2.2.2.1,r0.1.2.2.2.2.2.2.2.2.2.2.2.2.1,r0.1.2.2.2.2.2.2.2.2.2.2.2.2.2.1,r0.1.2.2.2.2.2.2.2.2.2.2.2.2.2.2,(0:Int)),()) else (g_sl12Right (a0,a1)).bind fun r6=> bif !r6.1 then (g_sl12Say (r0.1,a1,(3:Int))).bind fun r7=> some ((r7.2.1,r7.2.2.1,r7.2.2.2.1,r7.2.2.2.2.1,r7.2.2.2.2.2.1,r7.2.2.2.2.2.2.1,r7.2.2.2.2.2.2.2.1,r7.2.2.2.2.2.2.2.2.1,r7.2.2.2.2.2.2.2.2.2.1,r7.2.2.2.2.2.2.2.2.2.2.1,r7.2.2.2.2.2.2.2.2.2.2.2.1,r7.2.2.2.2.2.2.2.2.2.2.2.2.1,r7.2.2.2.2.2.2.2.2.2.2.2.2.2.1,r7.2.2.2.2.2.2.2.2.2.2.2.2.2.2.1,r7.2.2.2.2.2.2.2.2.2.2.2.2.2.2.2,(1:Int)),()) else bif decide (a1.2.1=3) then (g_sWholeLabels (a0.1,a0.2.2.2.1,a0.2.2.1)).bind fun r8=> (bnd r8.1.1.length a1.2.2.1 fun n9=> r8.1.1[n9]?.bind fun y10=> bnd r8.1.1.length a1.2.2.2 fun n11=> r8.1.1[n11]?.bind fun y12=> bif decide (y10=y12) then some (1:Int) else some (2:Int)).bind fun x13=> (g_sl12Say (r0.1,a1,x13)).bind fun r14=> some ((r14.2.1,r14.2.2.1,r14.2.2.2.1,r14.2.2.2.2.1,r14.2.2.2.2.2.1,r14.2.2.2.2.2.2.1,r14.2.2.2.2.2.2.2.1,r14.2.2.2.2.2.2.2.2.1,r14.2.2.2.2.2.2.2.2.2.1,r14.2.2.2.2.2.2.2.2.2.2.1,r14.2.2.2.2.2.2.2.2.2.2.2.1,r14.2.2.2.2.2.2.2.2.2.2.2.2.1,r14.2.2.2.2.2.2.2.2.2.2.2.2.2.1,r14.2.2.2.2.2.2.2.2.2.2.2.2.2.2.1,r14.2.2.2.2.2.2.2.2.2.2.2.2.2.2.2,(1:Int)),()) else bif decide (a1.2.1=4) then bnd a0.2.1.length a1.2.2.1 fun n15=> a0.2.1[n15]?.bind fun y16=> bif decide (y16=a1.2.2.2) then (g_sl12Say (r0.1,a1,(2:Int))).bind fun r17=> some ((r17.2.1,r17.2.2.1,r17.2.2.2.1,r17.2.2.2.2.1,r17.2.2.2.2.2.1,r17.2.2.2.2.2.2.1,r17.2.2.2.2.2.2.2.1,r17.2.2.2.2.2.2.2.2.1,r17.2.2.2.2.2.2.2.2.2.1,r17.2.2.2.2.2.2.2.2.2.2.1,r17.2.2.2.2.2.2.2.2.2.2.2.1,r17.2.2.2.2.2.2.2.2.2.2.2.2.1,r17.2.2.2.2.2.2.2.2.2.2.2.2.2.1,r17.2.2.2.2.2.2.2.2.2.2.2.2.2.2.1,r17.2.2.2.2.2.2.2.2.2.2.2.2.2.2.2,(1:Int)),()) else bnd a0.2.1.length a1.2.2.1 fun n18=> a0.2.1[n18]?.bind fun y19=> (g_sl12Task (r0.1,a1,y19,((0:Int),(3:Int),[],a1.2.2.1))).bind fun r20=> some ((r20.2.1,r20.2.2.1,r20.2.2.2.1,r20.2.2.2.2.1,r20.2.2.2.2.2.1,r20.2.2.2.2.2.2.1,r20.2.2.2.2.2.2.2.1,r20.2.2.2.2.2.2.2.2.1,r20.2.2.2.2.2.2.2.2.2.1,r20.2.2.2.2.2.2.2.2.2.2.1,r20.2.2.2.2.2.2.2.2.2.2.2.1,r20.2.2.2.2.2.2.2.2.2.2.2.2.1,r20.2.2.2.2.2.2.2.2.2.2.2.2.2.1,r20.2.2.2.2.2.2.2.2.2.2.2.2.2.2.1,r20.2.2.2.2.2.2.2.2.2.2.2.2.2.2.2,r20.1),()) else (g_sl12Change (r0.1,a1)).bind fun r21=> some ((r21.2.1,r21.2.2.1,r21.2.2.2.1,r21.2.2.2.2.1,r21.2.2.2.2.2.1,r21.2.2.2.2.2.2.1,r21.2.2.2.2.2.2.2.1,r21.2.2.2.2.2.2.2.2.1,r21.2.2.2.2.2.2.2.2.2.1,r21.2.2.2.2.2.2.2.2.2.2.1,r21.2.2.2.2.2.2.2.2.2.2.2.1,r21.2.2.2.2.2.2.2.2.2.2.2.2.1,r21.2.2.2.2.2.2.2.2.2.2.2.2.2.1,r21.2.2.2.2.2.2.2.2.2.2.2.2.2.2.1,r21.2.2.2.2.2.2.2.2.2.2.2.2.2.2.2,r21.1),()):=by kernel_rfl
def c_sAnswerOk:TC:=
 (zS [zJp 3 1] (zQ (.join [⟨4,[.b],false⟩] 16777200 none (zR [zAb 5 0,zBy 6 139 5 12,zAb 7 6,zDm 8 2,zDn 9 3 0 8 2,zEu 139 9 10 10 2,zIx 7 10 11,zBq 13 0 7,zIA 14 7 3 2 7,zDy 180 13 15 16 16 7,zIx 12 16 17,zBq 19 0 13,zIs 20 13 3 3,zDy 181 19 21 22 22 13,zJe 18 22 23 4])) .ret))
def s_sAnswerOk:Sig:=⟨[.rd false [.d],.rd true Ct7],(.one false [.d])⟩
def E_sAnswerOk:TEnv:=envOf [(139,p_sl01In),(180,p_sl05Edges),(181,p_sl09Labels)]
def f_sAnswerOk (n:Nat):Int × Zt10->Option ((Bool) × Unit):=runFn n E_sAnswerOk c_sAnswerOk [[.i .i64],Ty13] [.b] [] [4] .no
def g_sAnswerOk:=f_sAnswerOk BIG
def p_sAnswerOk:TSp:=⟨s_sAnswerOk,[[.i .i64],Ty13],[.b],[],Ou.j .no,g_sAnswerOk⟩
theorem k_sAnswerOk:zK E_sAnswerOk 147 s_sAnswerOk c_sAnswerOk 24 .no [4]:=by show _=_;kernel_rfl
theorem ok_sAnswerOk:p_sAnswerOk.Ok PG 147:=mkOk (env_cons ok_sl01In (env_cons ok_sl05Edges (env_cons ok_sl09Labels (env_nil PG)))) k_sAnswerOk (by kernel_rfl)
theorem e_sAnswerOk (n) (a0) (a1):f_sAnswerOk n (a0,a1) = ((g_sl01In (a0,(1:Int),(12:Int))).bind fun r0=> bif r0.1 then (g_sl01In (a1.1,(1:Int),(100000:Int))).bind fun r1=> bif r1.1 then (g_sl05Edges (a0,a1.2.2.1)).bind fun r2=> bif r2.1 then (g_sl09Labels (a0,a1.2.2.2)).bind fun r3=> some r3.1 else some false else some false else some false).bind fun x4=> some (x4,()):=by kernel_rfl
def c_sl12Say_r:TC:=
 (zS [zDk 4 1] (zS [zEz 6,zEz 7,zAb 14 2,zEA 8 7,zBw 9 8,zEB 10 14 9,zIf 11 4 0,zAx 13 4 4,zEC 15 12 13 14,zED 16 15,zDc 10 10 16 17 10 10 0 17,zIn 18 6,zDd 0 17 10 0 14 19 17] (zR [zEz 20,zEE 21,zIn 22 20,zDi 0 21 0 5 23 21])))
def s_sl12Say_r:Sig:=⟨[.mp [.d,.sl (.own none) [.d],.sl (.ro []) [.d,.d],.sl (.own none) Ct21,.sl (.own none) [.d],.d,.d,.d,.d,.d,.d,.d,.sl (.own none) [.d,.d],.d,.sl (.own none) Ct23],.rd true [.d,.d,.d,.d],.rd false [.d]],.u⟩
def E_sl12Say_r:TEnv:=envOf []
def f_sl12Say_r (n:Nat):Zt4 × Zt19 × Int->Option ((Unit) × Int × List Int × List Zt20 × List (List Int) × List Int × Int × Int × Int × Int × Int × Int × Int × List Zt20 × Int × List Zt14):=runFn n E_sl12Say_r c_sl12Say_r [Ty3,Ty19,[.i .i64]] [] Ty3 [] (.mp 0)
def g_sl12Say_r:=f_sl12Say_r BIG
def p_sl12Say_r:TSp:=⟨s_sl12Say_r,[Ty3,Ty19,[.i .i64]],[],Ty3,Ou.j (.mp 0),g_sl12Say_r⟩
theorem k_sl12Say_r:zK E_sl12Say_r 144 s_sl12Say_r c_sl12Say_r 24 (.mp 0) []:=by show _=_;kernel_rfl
theorem ok_sl12Say_r:p_sl12Say_r.Ok PG 144:=mkOk (env_nil PG) k_sl12Say_r (by kernel_rfl)
theorem e_sl12Say_r (n) (a0) (a1) (a2):f_sl12Say_r n (a0,a1,a2) = bif decide (a0.2.2.2.2.2.2.2.2.2.2.2.2.2.2.length+([(a1.1,a1.1,a1.2.1,a1.2.2.1,a1.2.2.2,a2)]).length<=4294967296) then some ((),(a0.1,a0.2.1,a0.2.2.1,a0.2.2.2.1,a0.2.2.2.2.1,(0:Int),(0:Int),(0:Int),(0:Int),(0:Int),(0:Int),(0:Int),[],(0:Int),a0.2.2.2.2.2.2.2.2.2.2.2.2.2.2++([(a1.1,a1.1,a1.2.1,a1.2.2.1,a1.2.2.2,a2)]))) else none:=by kernel_rfl
def c_sInside:TC:=
 (zS [zAz 6] (zS [zDe 10,zAs 10 7 10] (zQ (.join [⟨7,[.sl [.i .i64,.i .i64]],false⟩] 144115188075854720 none (zS [zAa 8] (.block 0 (.loop [⟨7,[.sl [.i .i64,.i .i64]],false⟩,⟨8,[.i .i64],false⟩] 144115188075854720 (zQ (zS [zIr 11 8 1] (zC 14 .skip (.exit 0))) (zQ (.join [⟨7,[.sl [.i .i64,.i .i64]],false⟩] 144115188075725440 none (.block 1 (zS [zIE 17 1 8 2 2,zAv 9 1000000010,zAy 9 9 20] (zQ (.join [⟨52,[.b],false⟩] 9007199252643840 none (zR [zIf 21 9 0,zJm 23 0,zEn 25 24,zDC 26 139 22 25,zKi 27 26 6 9 1 6,zBq 30 0 6,zGz 31 30 6,zKn 32 31 6 139 29 6,zIx 27 33 34,zBq 36 0 14,zIs 37 14 9 0,zDw 39 36 38 14,zEp 40 36 1 39 14,zBq 41 2 14,zEd 42 40 41 14,zIx 35 42 43,zBq 45 0 23,zIs 46 23 9 1,zDw 48 45 47 23,zEp 49 45 1 48 23,zBq 50 2 23,zEd 51 49 50 23,zBs 44 51 52])) (zC 52 (zR [zAs 7 53 7,zAx 54 9 2,zLb 55 54 53 53 7]) .skip))))) (zR [zIo 15 8 8]))))))) (zS [zJb 7 57 7 6] .ret))))
def s_sInside:Sig:=⟨[.rd false Ct21,.rd false Ct20,.rd false [.d]],(.one false Ct20)⟩
def E_sInside:TEnv:=envOf [(139,p_sl01In)]
def f_sInside (n:Nat):List Int × (List Zt20) × Int->Option ((List Zt20) × Unit):=runFn n E_sInside c_sInside [[.sl [.i .i64]],[.sl [.i .i64,.i .i64]],[.i .i64]] [.sl [.i .i64,.i .i64]] [] [6] .no
def g_sInside:=f_sInside BIG
def p_sInside:TSp:=⟨s_sInside,[[.sl [.i .i64]],[.sl [.i .i64,.i .i64]],[.i .i64]],[.sl [.i .i64,.i .i64]],[],Ou.j .no,g_sInside⟩
theorem k_sInside:zK E_sInside 99 s_sInside c_sInside 58 .no [6]:=by show _=_;kernel_rfl
theorem ok_sInside:p_sInside.Ok PG 99:=mkOk (env_cons ok_sl01In (env_nil PG)) k_sInside (by kernel_rfl)
theorem e_sInside (n) (a0) (a1) (a2):f_sInside n (a0,a1,a2) = (loopT n (X:=(List Zt20) × Int) (B:=(List Zt20)) (fun self1 x0=> bif decide (x0.2<(a1.length:Int)) then (bnd a1.length x0.2 fun n2=> a1[n2]?.bind fun y3=> ((g_sl01In (y3.1,(0:Int),IntKind.wrap .i64 ((a0.length:Int)-1))).bind fun r4=> bif r4.1 then (g_sl01In (y3.2,(0:Int),IntKind.wrap .i64 ((a0.length:Int)-1))).bind fun r5=> bif r5.1 then bnd a0.length y3.1 fun n6=> a0[n6]?.bind fun y7=> bif decide (y7=a2) then bnd a0.length y3.2 fun n8=> a0[n8]?.bind fun y9=> some (decide (y9=a2)) else some false else some false else some false).bind fun x10=> bif x10 then bif decide (x0.1.length+[y3].length<=4294967296) then some (x0.1++[y3]) else none else some x0.1:Option ((List Zt20))).bind fun x11=> self1 (x11,IntKind.wrap .i64 (x0.2+1)) else some x0.1) ([],(0:Int))).bind fun x12=> some (x12,()):=by kernel_rfl
def c_sl12Task_r:TC:=
 (zS [zDk 5 1,[o5 (.a (.t 3)) 7 3],zAa 8] (zS [zEz 9,zIC 10 9 4,zAb 13 2,zEn 14 13,zKv 15 12 14 0 4 1 1,zAk 17 16,zAn 18,zGd 7 7 0 18 17] (zS [zJE 19 5 4,zAb 21 2,zBa 22 7 4,zGe,zIn 24 19,zGf] (zS [zGg 8 2] .ret))))
def s_sl12Task_r:Sig:=⟨[.mp [.d,.sl (.own none) [.d],.sl (.ro []) [.d,.d],.sl (.own none) Ct21,.sl (.own none) [.d],.d,.d,.d,.d,.d,.d,.d,.sl (.own none) [.d,.d],.d,.sl (.own none) Ct23],.rd true [.d,.d,.d,.d],.rd false [.d],.tk true Ct14],(.one false [.d])⟩
def E_sl12Task_r:TEnv:=envOf []
def f_sl12Task_r (n:Nat):Zt4 × Zt19 × Int × Zt13->Option ((Int) × Int × List Int × List Zt20 × List (List Int) × List Int × Int × Int × Int × Int × Int × Int × Int × List Zt20 × Int × List Zt14):=runFn n E_sl12Task_r c_sl12Task_r [Ty3,Ty19,[.i .i64],Ty14] [.i .i64] Ty3 [8] (.mp 0)
def g_sl12Task_r:=f_sl12Task_r BIG
def p_sl12Task_r:TSp:=⟨s_sl12Task_r,[Ty3,Ty19,[.i .i64],Ty14],[.i .i64],Ty3,Ou.j (.mp 0),g_sl12Task_r⟩
theorem k_sl12Task_r:zK E_sl12Task_r 145 s_sl12Task_r c_sl12Task_r 26 (.mp 0) [8]:=by show _=_;kernel_rfl
theorem ok_sl12Task_r:p_sl12Task_r.Ok PG 145:=mkOk (env_nil PG) k_sl12Task_r (by kernel_rfl)
theorem e_sl12Task_r (n) (a0) (a1) (a2) (a3):f_sl12Task_r n (a0,a1,a2,a3) = bnd a0.2.2.2.2.1.length (IntKind.wrap .i64 (a2-1)) fun n0=> a0.2.2.2.2.1[n0]?.bind fun y1=> some ((2:Int),(a0.1,a0.2.1,a0.2.2.1,a0.2.2.2.1,a0.2.2.2.2.1,a1.1,a1.2.1,a1.2.2.1,a1.2.2.2,a2,IntKind.wrap .i64 (y1+1),a3.2.1,a3.2.2.1,a3.2.2.2,a0.2.2.2.2.2.2.2.2.2.2.2.2.2.2)):=by kernel_rfl
def c_sl12Moved:TC:=
 (zS [zDk 4 1,zAa 6] (zS [zEz 11,zIn 12 11,zAo 14 0 2 13,zAb 7 14] (zQ (.join [⟨0,Ty3,false⟩,⟨7,[.sl [.i .i64,.i .i64]],false⟩] 68719444417 (some [⟨6,[.i .i64],false⟩,⟨0,Ty3,false⟩]) (zS [zAa 8] (.block 0 (.loop [⟨0,Ty3,false⟩,⟨7,[.sl [.i .i64,.i .i64]],false⟩,⟨8,[.i .i64],false⟩] 68719444417 (zQ (zS [zIr 15 8 2] (zC 18 .skip (.exit 0))) (zQ (.block 1 (zQ (zS [zJv 21 7 2 8 2 2,zAj 26 155 21 25] (zC 26 (zS [zJE 27 4 4,zGi 144 28 3 29 29] (zS [zGg 6 1] .ret)) .skip)) (zR [zJv 30 7 2 8 2 2,zAj 35 156 30 34,zGA 35 35 35]))) (zR [zIo 19 8 8]))))))) (zS [zKr 36 1,zIv 40 4 2 4 3,zAh 44 39 41,zGB 0 39 0 1 1 44 43] (zS [zEz 45,zAb 49 7,zIC 46 45 1,zIf 50 4 3,zGn 52 99 48 49 51,zAs 52 9 52] (zQ (.join [⟨7,[.sl [.i .i64,.i .i64]],false⟩] 36884480948164363392 none (zS [zAa 10] (.block 2 (.loop [⟨7,[.sl [.i .i64,.i .i64]],false⟩,⟨10,[.i .i64],false⟩] 36884480948164363392 (zQ (zS [zAb 53 10,zAt 54 9,zIk 55 54 53] (zC 56 .skip (.exit 2))) (zQ (.block 3 (zR [zAb 59 7,zAt 60 9,zAb 61 10,zJh 62 60 61 9 2 2,zAj 64 183 59 63,zGA 64 64 64])) (zR [zIi 57 10,zAb 10 58]))))))) (zS [zEz 65,zAb 66 7,zIn 67 65,[o4 1 [0,44,48] (.store 0 [] 2 (.t 68) (.t 66))]] (zQ (zS [zAt 69 9,zAc 70 69,zEi 71 70 0] (zC 71 (zS [zJE 72 4 4,zGi 144 73 1 74 74] (zS [zGg 6 1] .ret)) .skip)) (zS [zJE 75 4 4,zIf 77 4 3,zGC 9 79 9 54 69 79,zGD 4 79 80 79 80,zGx 145 0 76 78 80 81 0 80 81,zAb 6 81] .ret)))))))))
def s_sl12Moved:Sig:=⟨[.mp [.d,.sl (.own none) [.d],.sl (.ro []) [.d,.d],.sl (.own none) Ct21,.sl (.own none) [.d],.d,.d,.d,.d,.d,.d,.d,.sl (.own none) [.d,.d],.d,.sl (.own none) Ct23],.rd true [.d,.d,.d,.d],.rd false Ct20],(.one false [.d])⟩
def E_sl12Moved:TEnv:=envOf [(155,p_sl05Has),(144,p_sl12Say_r),(156,p_sl05Put),(99,p_sInside),(183,p_sl05Without),(145,p_sl12Task_r)]
def f_sl12Moved (n:Nat):Zt4 × Zt19 × (List Zt20)->Option ((Int) × Int × List Int × List Zt20 × List (List Int) × List Int × Int × Int × Int × Int × Int × Int × Int × List Zt20 × Int × List Zt14):=runFn n E_sl12Moved c_sl12Moved [Ty3,Ty19,[.sl [.i .i64,.i .i64]]] [.i .i64] Ty3 [6] (.mp 0)
def g_sl12Moved:=f_sl12Moved BIG
def p_sl12Moved:TSp:=⟨s_sl12Moved,[Ty3,Ty19,[.sl [.i .i64,.i .i64]]],[.i .i64],Ty3,Ou.j (.mp 0),g_sl12Moved⟩
theorem k_sl12Moved:zK E_sl12Moved 148 s_sl12Moved c_sl12Moved 82 (.mp 0) [6]:=by show _=_;kernel_rfl
theorem ok_sl12Moved:p_sl12Moved.Ok PG 148:=mkOk (env_cons ok_sl05Has (env_cons ok_sl12Say_r (env_cons ok_sl05Put (env_cons ok_sInside (env_cons ok_sl05Without (env_cons ok_sl12Task_r (env_nil PG))))))) k_sl12Moved (by kernel_rfl)
theorem e_sl12Moved (n) (a0) (a1) (a2):f_sl12Moved n (a0,a1,a2) = (loopT n (X:=Zt4 × (List Zt20) × Int) (B:=(Zt4 × (List Zt20)) ⊕ Zt1) (fun self1 x0=> bif decide (x0.2.2<(a2.length:Int)) then bnd a2.length x0.2.2 fun n2=> a2[n2]?.bind fun y3=> (g_sl05Has (x0.2.1,y3)).bind fun r4=> bif r4.1 then (g_sl12Say_r (x0.1,a1,(3:Int))).bind fun r5=> some (Sum.inr ((1:Int),r5.2)) else bnd a2.length x0.2.2 fun n6=> a2[n6]?.bind fun y7=> (g_sl05Put (x0.2.1,y7)).bind fun r8=> self1 (x0.1,r8.1,IntKind.wrap .i64 (x0.2.2+1)) else some (Sum.inl (x0.1,x0.2.1))) (a0,a0.2.2.1,(0:Int))).bind fun y=>match y with | .inl x9=> bnd x9.1.2.1.length a1.2.2.1 fun n10=> x9.1.2.1[n10]?.bind fun y11=> (g_sInside (x9.1.2.1.set n10 a1.2.2.2,x9.2,a1.2.2.2)).bind fun r12=> (loopT n (X:=(List Zt20) × Int) (B:=(List Zt20)) (fun self14 x13=> bif decide (x13.2<(r12.1.length:Int)) then bnd r12.1.length x13.2 fun n15=> r12.1[n15]?.bind fun y16=> (g_sl05Without (x13.1,y16)).bind fun r17=> self14 (r17.1,IntKind.wrap .i64 (x13.2+1)) else some x13.1) (x9.2,(0:Int))).bind fun x18=> bif decide ((r12.1.length:Int)=0) then (g_sl12Say_r ((x9.1.1,x9.1.2.1.set n10 a1.2.2.2,x18,x9.1.2.2.2),a1,(1:Int))).bind fun r19=> some ((1:Int),r19.2) else (g_sl12Task_r ((x9.1.1,x9.1.2.1.set n10 a1.2.2.2,x18,x9.1.2.2.2),a1,a1.2.2.2,((0:Int),(4:Int),r12.1,(0:Int)))).bind fun r20=> some (r20.1,r20.2) | .inr x9=> some (x9.1,x9.2):=by kernel_rfl
def c_sHear:TC:=
 (zS [zAm 3,zDk 5 2,zBe 6 1000000007,zAa 7] (zS [zJi 12 3 15 96,zBe 8 1000000009,zDa 8 13 8 13] (zQ (.seq (.join [⟨44,[.b],false⟩] 35184372072448 none (zR [zAx 14 3 15,zAA 15 141 14,zJk 16 15,zIq 18 3 3 0 3,zKD 20 5 4 3 147 19 3,zJg 22 21 3 17,zEx 25 3 15 10,zGk 101 25 26 26 10,zJg 27 26 10 24,zBA 30 1 15,zDr 31 15,zGE 32 31 15,zDs 33 3 9 32 15,zJx 34 30 33 15 29,zAb 36 35,zIw 37 22 5 0,zDr 39 22,zGE 40 39 22,zGE 41 40 22,zDs 42 3 10 41 22,zJx 43 38 42 22 36])) (zC 44 (zS [zIm 45 8 15 6 6 8,zAa 7] .ret) .skip)) (zS [zIu 46 3 5 9,zBc 9 1000000010,zAy 9 9 47] (zS [zJD 48 8 4,zAb 50 1,zEn 51 50,zIf 52 5 0,zAh 54 49 51,zGB 8 49 8 4 1 54 53] (zS [zAb 57 1,zJD 55 8 3,zEn 58 57,zBt 59,zIf 60 5 3,zBv 59 61 62 59,zAh 63 56 58,[o4 2 [8,62,48,54,63,56,55] (.store 8 [(3,1)] 0 (.t 63) (.t 62))]] (zQ (.seq (.join [⟨73,[.b],false⟩] 18871019187404871303168 none (zR [zJt 64 9 1,zEi 67 66 4,zAb 68 67,zDm 69 4,zEo 70 69 4,zDn 71 9 6 70 4,zHa 72 71 3 4,zBs 68 72 73])) (zC 73 (zS [zIu 74 9 0 4,zIf 76 5 2,[⟨false,[],[3000008002],.call 2 148 [.t 8,.t 75,.t 77] (.mp 0),[78,8,8],(some 78),none⟩],zAb 10 78] (zS [zBa 79 8 15,zAA 80 96 79,zAb 81 10,zKb 6 80 6 80] .ret)) .skip)) (zS [zGg 11 1] (zQ (.join [⟨11,[.i .i64],false⟩] 2471044375292302033099425792 none (zQ (.join [⟨90,[.b],false⟩] 2471044375292302033099423744 none (zR [zJt 82 9 1,zEy 85 84 4,zKi 86 85 4 5 1 4,zDz 89 88 4,zBs 86 89 90])) (zC 90 (zR [zGg 11 2]) .skip))) (zS [zIu 91 9 0 4,zAb 93 11,zGq 144 8 92 93 94 8 94] (zS [zIm 95 8 15 6 6 8,zGg 7 1] .ret)))))))))))
def s_sHear:Sig:=⟨[.rd true Ct2,.rd false [.d],.rd true Ct7],(.tup [(true,15),(false,1)] Ct1)⟩
def E_sHear:TEnv:=envOf [(96,p_sl12Copy),(141,p_sHeadOk),(147,p_sAnswerOk),(101,p_sBusy),(148,p_sl12Moved),(144,p_sl12Say)]
def f_sHear (n:Nat):Zt4 × Int × Zt10->Option (Zt3 × Unit):=runFn n E_sHear c_sHear [Ty3,[.i .i64],Ty13] Ty1 [] [6,7] .no
def g_sHear:=f_sHear BIG
def p_sHear:TSp:=⟨s_sHear,[Ty3,[.i .i64],Ty13],Ty1,[],Ou.j .no,g_sHear⟩
theorem k_sHear:zK E_sHear 95 s_sHear c_sHear 96 .no [6,7]:=by show _=_;kernel_rfl
theorem ok_sHear:p_sHear.Ok PG 95:=mkOk (env_cons ok_sl12Copy (env_cons ok_sHeadOk (env_cons ok_sAnswerOk (env_cons ok_sBusy (env_cons ok_sl12Moved (env_cons ok_sl12Say (env_nil PG))))))) k_sHear (by kernel_rfl)
theorem e_sHear (n) (a0) (a1) (a2):f_sHear n (a0,a1,a2) = (g_sl12Copy a0).bind fun r0=> ((g_sHeadOk a0).bind fun r1=> bif !r1.1 then some true else (g_sAnswerOk (a0.1,a2)).bind fun r2=> bif !r2.1 then some true else (g_sBusy a0).bind fun r3=> bif !r3.1 then some true else bif !decide (a1=a0.2.2.2.2.2.2.2.2.2.1) then some true else some (!decide (a2.1=a0.2.2.2.2.2.2.2.2.2.2.1))).bind fun x4=> bif x4 then some ((r0.1.1,r0.1.2.1,r0.1.2.2.1,r0.1.2.2.2.1,r0.1.2.2.2.2.1,r0.1.2.2.2.2.2.1,r0.1.2.2.2.2.2.2.1,r0.1.2.2.2.2.2.2.2.1,r0.1.2.2.2.2.2.2.2.2.1,r0.1.2.2.2.2.2.2.2.2.2.1,r0.1.2.2.2.2.2.2.2.2.2.2.1,r0.1.2.2.2.2.2.2.2.2.2.2.2.1,r0.1.2.2.2.2.2.2.2.2.2.2.2.2.1,r0.1.2.2.2.2.2.2.2.2.2.2.2.2.2.1,r0.1.2.2.2.2.2.2.2.2.2.2.2.2.2.2,(0:Int)),()) else bnd r0.1.2.2.2.2.1.length (IntKind.wrap .i64 (a1-1)) fun n5=> r0.1.2.2.2.2.1[n5]?.bind fun y6=> bif decide (0+a2.2.2.2.length<=4294967296) then bnd r0.1.2.2.2.1.length (IntKind.wrap .i64 (a1-1)) fun n7=> r0.1.2.2.2.1[n7]?.bind fun y8=> (bif decide (a0.2.2.2.2.2.2.1=4) then some (decide (a0.2.2.2.2.2.2.2.2.2.2.2.1=3)) else some false).bind fun x9=> bif x9 then (g_sl12Moved ((r0.1.1,r0.1.2.1,r0.1.2.2.1,r0.1.2.2.2.1.set n7 ([]++a2.2.2.2),r0.1.2.2.2.2.1.set n5 a2.1,r0.1.2.2.2.2.2),(a0.2.2.2.2.2.1,a0.2.2.2.2.2.2.1,a0.2.2.2.2.2.2.2.1,a0.2.2.2.2.2.2.2.2.1),a2.2.2.1)).bind fun r10=> (g_sl12Copy r10.2).bind fun r11=> some ((r11.1.1,r11.1.2.1,r11.1.2.2.1,r11.1.2.2.2.1,r11.1.2.2.2.2.1,r11.1.2.2.2.2.2.1,r11.1.2.2.2.2.2.2.1,r11.1.2.2.2.2.2.2.2.1,r11.1.2.2.2.2.2.2.2.2.1,r11.1.2.2.2.2.2.2.2.2.2.1,r11.1.2.2.2.2.2.2.2.2.2.2.1,r11.1.2.2.2.2.2.2.2.2.2.2.2.1,r11.1.2.2.2.2.2.2.2.2.2.2.2.2.1,r11.1.2.2.2.2.2.2.2.2.2.2.2.2.2.1,r11.1.2.2.2.2.2.2.2.2.2.2.2.2.2.2,r10.1),()) else ((bif !decide (a0.2.2.2.2.2.2.1=4) then some !a2.2.1 else some false).bind fun x12=> bif x12 then some (2:Int) else some (1:Int)).bind fun x13=> (g_sl12Say ((r0.1.1,r0.1.2.1,r0.1.2.2.1,r0.1.2.2.2.1.set n7 ([]++a2.2.2.2),r0.1.2.2.2.2.1.set n5 a2.1,r0.1.2.2.2.2.2),(a0.2.2.2.2.2.1,a0.2.2.2.2.2.2.1,a0.2.2.2.2.2.2.2.1,a0.2.2.2.2.2.2.2.2.1),x13)).bind fun r14=> some ((r14.2.1,r14.2.2.1,r14.2.2.2.1,r14.2.2.2.2.1,r14.2.2.2.2.2.1,r14.2.2.2.2.2.2.1,r14.2.2.2.2.2.2.2.1,r14.2.2.2.2.2.2.2.2.1,r14.2.2.2.2.2.2.2.2.2.1,r14.2.2.2.2.2.2.2.2.2.2.1,r14.2.2.2.2.2.2.2.2.2.2.2.1,r14.2.2.2.2.2.2.2.2.2.2.2.2.1,r14.2.2.2.2.2.2.2.2.2.2.2.2.2.1,r14.2.2.2.2.2.2.2.2.2.2.2.2.2.2.1,r14.2.2.2.2.2.2.2.2.2.2.2.2.2.2.2,(1:Int)),()) else none:=by kernel_rfl
def c_sHeadFrom:TC:=
 (zS [zBe 6 1000000007,zBo 7] (zS [zIh 13 0 1,zAj 15 93 13 14,zAs 15 12 15,zGo 12 15 16 12,zGp 17 12 15,zBe 8 1000000009,zKb 8 16 8 16] (zQ (.join [⟨8,Ty3,false⟩,⟨9,[.b],false⟩] 9223372036854517504 none (zS [zAa 10] (.block 0 (.loop [⟨8,Ty3,false⟩,⟨9,[.b],false⟩,⟨10,[.i .i64],false⟩] 9223372036854517504 (zQ (.seq (.join [⟨24,[.b],false⟩] 33292288 none (zR [zIr 18 10 2,zKy 22 21 9 4,zBs 22 23 24])) (zC 24 .skip (.exit 0))) (zQ (.join [⟨8,Ty3,false⟩,⟨9,[.b],false⟩] 9223372036720560896 none (.block 1 (zS [zAa 11] (zQ (.join [⟨8,Ty3,false⟩,⟨11,[.i .i64],false⟩] 2305843009079478528 none (zS [zIh 27 2 10,zKx 29 27 28 14 1] (.block 2 (zS [zEi 33 31 1,zAb 32 33] (zC 32 (zR [zIh 36 2 10,zBa 35 8 15,zKc 38 36 37 14 1 4,zAj 41 94 35 40,zJd 41 34 41 15,zGp 43 34 15,[o4 2 [8,42,35] (.store 8 [] 0 .nil (.t 42))],zAb 11 43]) (zS [zEi 45 31 2,zAb 44 45] (zC 44 (zR [zIh 48 2 10,zIh 53 2 10,zBa 47 8 15,zKc 50 48 49 14 5 1,zKc 55 53 54 14 6 4,zGn 58 95 47 52 57,zJd 58 46 58 15,zGp 60 46 15,[o4 2 [8,59,47] (.store 8 [] 0 .nil (.t 59))],zAb 11 60]) .skip))))))) (zR [zAb 61 11,zEy 62 61 0,zAb 9 62]))))) (zR [zIi 25 10,zAb 10 26]))))))) (zQ (zS [zAb 63 9,zBz 64 63] (zC 64 (zS [zBE 65,zDa 6 65 6 65,zBo 7] .ret) .skip)) (zS [zBa 66 8 15,zAA 67 96 66,zDa 6 67 6 67,zDh 7] .ret)))))
def s_sHeadFrom:Sig:=⟨[.rd false [.d],.rd false [.d],.rd false Ct3],(.tup [(true,15),(false,1)] Ct1)⟩
def E_sHeadFrom:TEnv:=envOf [(93,p_sHeadNew),(94,p_sTake),(95,p_sHear),(96,p_sl12Copy)]
def f_sHeadFrom (n:Nat):Int × Int × (List Zt6)->Option (Zt2 × Unit):=runFn n E_sHeadFrom c_sHeadFrom [[.i .i64],[.i .i64],Ty4] Ty2 [] [6,7] .no
def g_sHeadFrom:=f_sHeadFrom BIG
def p_sHeadFrom:TSp:=⟨s_sHeadFrom,[[.i .i64],[.i .i64],Ty4],Ty2,[],Ou.j .no,g_sHeadFrom⟩
theorem k_sHeadFrom:zK E_sHeadFrom 50 s_sHeadFrom c_sHeadFrom 68 .no [6,7]:=by show _=_;kernel_rfl
theorem ok_sHeadFrom:p_sHeadFrom.Ok PG 50:=mkOk (env_cons ok_sHeadNew (env_cons ok_sTake (env_cons ok_sHear (env_cons ok_sl12Copy (env_nil PG))))) k_sHeadFrom (by kernel_rfl)
theorem e_sHeadFrom (n) (a0) (a1) (a2):f_sHeadFrom n (a0,a1,a2) = (g_sHeadNew (a0,a1)).bind fun r0=> (loopT n (X:=Zt4 × Bool × Int) (B:=Zt4 × Bool) (fun self2 x1=> (bif decide (x1.2.2<(a2.length:Int)) then some x1.2.1 else some false).bind fun x3=> bif x3 then ((bnd a2.length x1.2.2 fun n4=> a2[n4]?.bind fun y5=> bif decide (y5.1=1) then bnd a2.length x1.2.2 fun n6=> a2[n6]?.bind fun y7=> (g_sTake (x1.1,(y7.2.1,y7.2.2.1,y7.2.2.2.1,y7.2.2.2.2.1))).bind fun r8=> some ((r8.1.1,r8.1.2.1,r8.1.2.2.1,r8.1.2.2.2.1,r8.1.2.2.2.2.1,r8.1.2.2.2.2.2.1,r8.1.2.2.2.2.2.2.1,r8.1.2.2.2.2.2.2.2.1,r8.1.2.2.2.2.2.2.2.2.1,r8.1.2.2.2.2.2.2.2.2.2.1,r8.1.2.2.2.2.2.2.2.2.2.2.1,r8.1.2.2.2.2.2.2.2.2.2.2.2.1,r8.1.2.2.2.2.2.2.2.2.2.2.2.2.1,r8.1.2.2.2.2.2.2.2.2.2.2.2.2.2.1,r8.1.2.2.2.2.2.2.2.2.2.2.2.2.2.2.1),r8.1.2.2.2.2.2.2.2.2.2.2.2.2.2.2.2) else bif decide (y5.1=2) then bnd a2.length x1.2.2 fun n9=> a2[n9]?.bind fun y10=> bnd a2.length x1.2.2 fun n11=> a2[n11]?.bind fun y12=> (g_sHear (x1.1,y10.2.2.2.2.2.1,(y12.2.2.2.2.2.2.1,y12.2.2.2.2.2.2.2.1,y12.2.2.2.2.2.2.2.2.1,y12.2.2.2.2.2.2.2.2.2.1))).bind fun r13=> some ((r13.1.1,r13.1.2.1,r13.1.2.2.1,r13.1.2.2.2.1,r13.1.2.2.2.2.1,r13.1.2.2.2.2.2.1,r13.1.2.2.2.2.2.2.1,r13.1.2.2.2.2.2.2.2.1,r13.1.2.2.2.2.2.2.2.2.1,r13.1.2.2.2.2.2.2.2.2.2.1,r13.1.2.2.2.2.2.2.2.2.2.2.1,r13.1.2.2.2.2.2.2.2.2.2.2.2.1,r13.1.2.2.2.2.2.2.2.2.2.2.2.2.1,r13.1.2.2.2.2.2.2.2.2.2.2.2.2.2.1,r13.1.2.2.2.2.2.2.2.2.2.2.2.2.2.2.1),r13.1.2.2.2.2.2.2.2.2.2.2.2.2.2.2.2) else some (x1.1,(0:Int))).bind fun x14=> some (x14.1,!decide (x14.2=0)):Option (Zt4 × Bool)).bind fun x15=> self2 (x15.1,x15.2,IntKind.wrap .i64 (x1.2.2+1)) else some (x1.1,x1.2.1)) ((r0.1.1,r0.1.2.1,r0.1.2.2.1,r0.1.2.2.2.1,r0.1.2.2.2.2.1,r0.1.2.2.2.2.2.1,r0.1.2.2.2.2.2.2.1,r0.1.2.2.2.2.2.2.2.1,r0.1.2.2.2.2.2.2.2.2.1,r0.1.2.2.2.2.2.2.2.2.2.1,r0.1.2.2.2.2.2.2.2.2.2.2.1,r0.1.2.2.2.2.2.2.2.2.2.2.2.1,r0.1.2.2.2.2.2.2.2.2.2.2.2.2.1,r0.1.2.2.2.2.2.2.2.2.2.2.2.2.2.1,r0.1.2.2.2.2.2.2.2.2.2.2.2.2.2.2.1),r0.1.2.2.2.2.2.2.2.2.2.2.2.2.2.2.2,(0:Int))).bind fun x16=> bif !x16.2 then some (((0:Int),[],[],[],[],(0:Int),(0:Int),(0:Int),(0:Int),(0:Int),(0:Int),(0:Int),[],(0:Int),[],false),()) else (g_sl12Copy x16.1).bind fun r17=> some ((r17.1.1,r17.1.2.1,r17.1.2.2.1,r17.1.2.2.2.1,r17.1.2.2.2.2.1,r17.1.2.2.2.2.2.1,r17.1.2.2.2.2.2.2.1,r17.1.2.2.2.2.2.2.2.1,r17.1.2.2.2.2.2.2.2.2.1,r17.1.2.2.2.2.2.2.2.2.2.1,r17.1.2.2.2.2.2.2.2.2.2.2.1,r17.1.2.2.2.2.2.2.2.2.2.2.2.1,r17.1.2.2.2.2.2.2.2.2.2.2.2.2.1,r17.1.2.2.2.2.2.2.2.2.2.2.2.2.2.1,r17.1.2.2.2.2.2.2.2.2.2.2.2.2.2.2,true),()):=by kernel_rfl
def c_sl15Head:TC:=
 (zS [zAm 1,zBe 2 1000000003,zBo 3] (zS [zLd 4 1 0 4 6 1 16 6,zAc 8 7,zIj 9 1 21 9,zGn 11 50 5 8 10,zGo 11 15 12 11,zGp 13 11 15,zKb 2 12 2 12] .ret))
def s_sl15Head:Sig:=⟨[.rd true Ct0],(.tup [(true,15),(false,1)] Ct1)⟩
def E_sl15Head:TEnv:=envOf [(50,p_sHeadFrom)]
def f_sl15Head (n:Nat):Zt0->Option (Zt2 × Unit):=runFn n E_sl15Head c_sl15Head [Ty0] Ty2 [] [2,3] .no
def g_sl15Head:=f_sl15Head BIG
def p_sl15Head:TSp:=⟨s_sl15Head,[Ty0],Ty2,[],Ou.j .no,g_sl15Head⟩
theorem k_sl15Head:zK E_sl15Head 16 s_sl15Head c_sl15Head 14 .no [2,3]:=by show _=_;kernel_rfl
theorem ok_sl15Head:p_sl15Head.Ok PG 16:=mkOk (env_cons ok_sHeadFrom (env_nil PG)) k_sl15Head (by kernel_rfl)
theorem e_sl15Head (n) (a0):f_sl15Head n a0 = (g_sHeadFrom (a0.1,(a0.2.2.2.2.2.2.2.2.2.2.2.2.2.2.2.2.1.length:Int),a0.2.2.2.2.2.2.2.2.2.2.2.2.2.2.2.2.2.2.2.2.2)).bind fun r0=> some (r0.1,()):=by kernel_rfl
def c_sl15SameSaid:TC:=
 (zS [zBo 4] (zQ (zS [zKj 6 0 6 8 1 8] (zC 10 (zS [zBo 4] .ret) .skip)) (zQ (.join [] 67106864 (some [⟨4,[.b],false⟩]) (zS [zAa 5] (.block 0 (.loop [⟨5,[.i .i64],false⟩] 67106864 (zQ (zS [zIr 11 5 0] (zC 14 .skip (.exit 0))) (zQ (.block 1 (zS [zKf 17 0 5 21 1 5 6 6 6 6,zHb 25 20 24] (zC 25 (zS [zBo 4] .ret) .skip))) (zR [zIo 15 5 5]))))))) (zS [zDh 4] .ret))))
def s_sl15SameSaid:Sig:=⟨[.rd false Ct13,.rd false Ct13],(.one false [.d])⟩
def E_sl15SameSaid:TEnv:=envOf []
def f_sl15SameSaid (n:Nat):(List Zt14) × (List Zt14)->Option ((Bool) × Unit):=runFn n E_sl15SameSaid c_sl15SameSaid [Ty11,Ty11] [.b] [] [4] .no
def g_sl15SameSaid:=f_sl15SameSaid BIG
def p_sl15SameSaid:TSp:=⟨s_sl15SameSaid,[Ty11,Ty11],[.b],[],Ou.j .no,g_sl15SameSaid⟩
theorem k_sl15SameSaid:zK E_sl15SameSaid 17 s_sl15SameSaid c_sl15SameSaid 26 .no [4]:=by show _=_;kernel_rfl
theorem ok_sl15SameSaid:p_sl15SameSaid.Ok PG 17:=mkOk (env_nil PG) k_sl15SameSaid (by kernel_rfl)
theorem e_sl15SameSaid (n) (a0) (a1):f_sl15SameSaid n (a0,a1) = bif !decide ((a0.length:Int)=(a1.length:Int)) then some (false,()) else (loopT n (X:=Int) (B:=(Unit) ⊕ (Bool)) (fun self1 x0=> bif decide (x0<(a0.length:Int)) then bnd a0.length x0 fun n2=> a0[n2]?.bind fun y3=> bnd a1.length x0 fun n4=> a1[n4]?.bind fun y5=> bif !(decide (y3.1=y5.1)&&(decide (y3.2.1=y5.2.1)&&(decide (y3.2.2.1=y5.2.2.1)&&(decide (y3.2.2.2.1=y5.2.2.2.1)&&(decide (y3.2.2.2.2.1=y5.2.2.2.2.1)&&(decide (y3.2.2.2.2.2=y5.2.2.2.2.2)&&true)))))) then some (Sum.inr false) else self1 (IntKind.wrap .i64 (x0+1)) else some (Sum.inl ())) (0:Int)).bind fun y=>match y with | .inl x6=> some (true,()) | .inr x6=> some (x6,()):=by kernel_rfl
def c_sGraphOk:TC:=
 (zS [zKh 1] (zQ (.join [⟨2,[.b],false⟩] 8188 none (zR [zIj 3 1 0 3,zBy 5 139 4 12,zAb 6 5,zDm 7 3,zDn 8 1 0 7 3,zDm 9 3,zDn 10 1 1 9 3,zDy 180 8 10 11 11 3,zJe 6 11 12 2])) .ret))
def s_sGraphOk:Sig:=⟨[.rd true Ct19],(.one false [.d])⟩
def E_sGraphOk:TEnv:=envOf [(139,p_sl01In),(180,p_sl05Edges)]
def f_sGraphOk (n:Nat):Zt17->Option ((Bool) × Unit):=runFn n E_sGraphOk c_sGraphOk [Ty20] [.b] [] [2] .no
def g_sGraphOk:=f_sGraphOk BIG
def p_sGraphOk:TSp:=⟨s_sGraphOk,[Ty20],[.b],[],Ou.j .no,g_sGraphOk⟩
theorem k_sGraphOk:zK E_sGraphOk 158 s_sGraphOk c_sGraphOk 13 .no [2]:=by show _=_;kernel_rfl
theorem ok_sGraphOk:p_sGraphOk.Ok PG 158:=mkOk (env_cons ok_sl01In (env_cons ok_sl05Edges (env_nil PG))) k_sGraphOk (by kernel_rfl)
theorem e_sGraphOk (n) (a0):f_sGraphOk n a0 = ((g_sl01In (a0.1,(1:Int),(12:Int))).bind fun r0=> bif r0.1 then (g_sl05Edges (a0.1,a0.2)).bind fun r1=> some r1.1 else some false).bind fun x2=> some (x2,()):=by kernel_rfl
def c_sLabels:TC:=
 (zS [zAm 1,zAr 2] (zQ (zS [zLe 3 1 2 158 3,zBz 5 4] (zC 5 (zS [zBt 6,zAs 6 2 6] .ret) .skip)) (zS [zLd 7 1 0 7 9 1 1 9,zAj 11 140 8 10,zAs 11 2 11] .ret)))
def s_sLabels:Sig:=⟨[.rd true Ct19],(.one false Ct21)⟩
def E_sLabels:TEnv:=envOf [(158,p_sGraphOk),(140,p_sl05Labels)]
def f_sLabels (n:Nat):Zt17->Option ((List Int) × Unit):=runFn n E_sLabels c_sLabels [Ty20] [.sl [.i .i64]] [] [2] .no
def g_sLabels:=f_sLabels BIG
def p_sLabels:TSp:=⟨s_sLabels,[Ty20],[.sl [.i .i64]],[],Ou.j .no,g_sLabels⟩
theorem k_sLabels:zK E_sLabels 105 s_sLabels c_sLabels 12 .no [2]:=by show _=_;kernel_rfl
theorem ok_sLabels:p_sLabels.Ok PG 105:=mkOk (env_cons ok_sGraphOk (env_cons ok_sl05Labels (env_nil PG))) k_sLabels (by kernel_rfl)
theorem e_sLabels (n) (a0):f_sLabels n a0 = (g_sGraphOk a0).bind fun r0=> bif !r0.1 then some ([],()) else (g_sl05Labels (a0.1,a0.2)).bind fun r1=> some (r1.1,()):=by kernel_rfl
def c_sTogether:TC:=
 (zS [zAm 3,zBo 6] (zS [zLe 8 3 2 105 8,zAs 9 7 9] (zQ (.join [⟨6,[.b],false⟩] 8589933632 none (zR [zAb 10 1,zAt 11 7,zAc 12 11,zEn 13 12,zDC 14 139 10 13,zKy 15 14 2 5,zHc 17 17 5,zGz 18 17 5,zKn 19 18 5 139 16 5,zIx 15 20 21,zHc 23 23 12,zBq 24 1 12,zDw 25 23 24 12,zEp 26 7 1 25 12,zHc 27 27 12,zBq 28 2 12,zDw 29 27 28 12,zEp 30 7 1 29 12,zEd 31 26 30 12,zJe 22 31 32 6])) .ret)))
def s_sTogether:Sig:=⟨[.rd true Ct19,.rd false [.d],.rd false [.d]],(.one false [.d])⟩
def E_sTogether:TEnv:=envOf [(105,p_sLabels),(139,p_sl01In)]
def f_sTogether (n:Nat):Zt17 × Int × Int->Option ((Bool) × Unit):=runFn n E_sTogether c_sTogether [Ty20,[.i .i64],[.i .i64]] [.b] [] [6] .no
def g_sTogether:=f_sTogether BIG
def p_sTogether:TSp:=⟨s_sTogether,[Ty20,[.i .i64],[.i .i64]],[.b],[],Ou.j .no,g_sTogether⟩
theorem k_sTogether:zK E_sTogether 150 s_sTogether c_sTogether 33 .no [6]:=by show _=_;kernel_rfl
theorem ok_sTogether:p_sTogether.Ok PG 150:=mkOk (env_cons ok_sLabels (env_cons ok_sl01In (env_nil PG))) k_sTogether (by kernel_rfl)
theorem e_sTogether (n) (a0) (a1) (a2):f_sTogether n (a0,a1,a2) = (g_sLabels a0).bind fun r0=> ((g_sl01In (a1,(0:Int),IntKind.wrap .i64 ((r0.1.length:Int)-1))).bind fun r1=> bif r1.1 then (g_sl01In (a2,(0:Int),IntKind.wrap .i64 ((r0.1.length:Int)-1))).bind fun r2=> bif r2.1 then bnd r0.1.length a1 fun n3=> r0.1[n3]?.bind fun y4=> bnd r0.1.length a2 fun n5=> r0.1[n5]?.bind fun y6=> some (decide (y4=y6)) else some false else some false).bind fun x7=> some (x7,()):=by kernel_rfl
def c_sHasEdge:TC:=
 (zS [zJB 2 1] (zS [zIj 5 2 1 5,zAx 7 3 2,zAj 8 155 6 7,zAb 4 8] .ret))
def s_sHasEdge:Sig:=⟨[.rd true Ct19,.rd true [.d,.d]],(.one false [.d])⟩
def E_sHasEdge:TEnv:=envOf [(155,p_sl05Has)]
def f_sHasEdge (n:Nat):Zt17 × Zt20->Option ((Bool) × Unit):=runFn n E_sHasEdge c_sHasEdge [Ty20,[.i .i64,.i .i64]] [.b] [] [4] .no
def g_sHasEdge:=f_sHasEdge BIG
def p_sHasEdge:TSp:=⟨s_sHasEdge,[Ty20,[.i .i64,.i .i64]],[.b],[],Ou.j .no,g_sHasEdge⟩
theorem k_sHasEdge:zK E_sHasEdge 184 s_sHasEdge c_sHasEdge 9 .no [4]:=by show _=_;kernel_rfl
theorem ok_sHasEdge:p_sHasEdge.Ok PG 184:=mkOk (env_cons ok_sl05Has (env_nil PG)) k_sHasEdge (by kernel_rfl)
theorem e_sHasEdge (n) (a0) (a1):f_sHasEdge n (a0,a1) = (g_sl05Has (a0.2,a1)).bind fun r0=> some (r0.1,()):=by kernel_rfl
def c_sAddEdge:TC:=
 (zS [zAm 2,zDk 3 1,zHd 4 1000000005,zBo 5] (zQ (.seq (.join [⟨20,[.b],false⟩] 2097088 none (zR [zLe 6 2 2 158 6,zBz 8 7,zKz 9 8 3 2 0 3,zKD 12 3 2 3 157 11 3,zJg 14 13 3 9,zEx 17 2 2 10,zEx 18 3 2 10,zEh 184 17 18 19 19 10,zBD 16 19 20])) (zC 20 (zS [zHe 21,zDa 4 21 4 21,zBo 5] .ret) .skip)) (zS [zIv 22 2 0 2 1,zJs 26 3 2 156 25,zHf 23 27 28 27,zDa 4 28 4 28,zDh 5] .ret)))
def s_sAddEdge:Sig:=⟨[.rd true Ct19,.rd true [.d,.d]],(.tup [(true,2),(false,1)] Ct17)⟩
def E_sAddEdge:TEnv:=envOf [(158,p_sGraphOk),(157,p_sEdgeOk),(184,p_sHasEdge),(156,p_sl05Put)]
def f_sAddEdge (n:Nat):Zt17 × Zt20->Option (Zt15 × Unit):=runFn n E_sAddEdge c_sAddEdge [Ty20,[.i .i64,.i .i64]] Ty18 [] [4,5] .no
def g_sAddEdge:=f_sAddEdge BIG
def p_sAddEdge:TSp:=⟨s_sAddEdge,[Ty20,[.i .i64,.i .i64]],Ty18,[],Ou.j .no,g_sAddEdge⟩
theorem k_sAddEdge:zK E_sAddEdge 151 s_sAddEdge c_sAddEdge 29 .no [4,5]:=by show _=_;kernel_rfl
theorem ok_sAddEdge:p_sAddEdge.Ok PG 151:=mkOk (env_cons ok_sGraphOk (env_cons ok_sEdgeOk (env_cons ok_sHasEdge (env_cons ok_sl05Put (env_nil PG))))) k_sAddEdge (by kernel_rfl)
theorem e_sAddEdge (n) (a0) (a1):f_sAddEdge n (a0,a1) = ((g_sGraphOk a0).bind fun r0=> bif !r0.1 then some true else (g_sEdgeOk (a0.1,a1)).bind fun r1=> bif !r1.1 then some true else (g_sHasEdge (a0,a1)).bind fun r2=> some r2.1).bind fun x3=> bif x3 then some (((0:Int),[],false),()) else (g_sl05Put (a0.2,a1)).bind fun r4=> some ((a0.1,r4.1,true),()):=by kernel_rfl
def c_sTakeEdge:TC:=
 (zS [zAm 2,zDk 3 1,zHd 4 1000000005,zBo 5] (zQ (.seq (.join [⟨14,[.b],false⟩] 32704 none (zR [zLe 6 2 2 158 6,zBz 8 7,zAb 9 8,zEx 10 2 2 3,zKD 11 3 2 3 184 10 3,zIt 13 12 3 9])) (zC 14 (zS [zHe 15,zDa 4 15 4 15,zBo 5] .ret) .skip)) (zS [zIv 16 2 0 2 1,zJs 20 3 2 183 19,zHf 17 21 22 21,zDa 4 22 4 22,zDh 5] .ret)))
def s_sTakeEdge:Sig:=⟨[.rd true Ct19,.rd true [.d,.d]],(.tup [(true,2),(false,1)] Ct17)⟩
def E_sTakeEdge:TEnv:=envOf [(158,p_sGraphOk),(184,p_sHasEdge),(183,p_sl05Without)]
def f_sTakeEdge (n:Nat):Zt17 × Zt20->Option (Zt15 × Unit):=runFn n E_sTakeEdge c_sTakeEdge [Ty20,[.i .i64,.i .i64]] Ty18 [] [4,5] .no
def g_sTakeEdge:=f_sTakeEdge BIG
def p_sTakeEdge:TSp:=⟨s_sTakeEdge,[Ty20,[.i .i64,.i .i64]],Ty18,[],Ou.j .no,g_sTakeEdge⟩
theorem k_sTakeEdge:zK E_sTakeEdge 153 s_sTakeEdge c_sTakeEdge 23 .no [4,5]:=by show _=_;kernel_rfl
theorem ok_sTakeEdge:p_sTakeEdge.Ok PG 153:=mkOk (env_cons ok_sGraphOk (env_cons ok_sHasEdge (env_cons ok_sl05Without (env_nil PG)))) k_sTakeEdge (by kernel_rfl)
theorem e_sTakeEdge (n) (a0) (a1):f_sTakeEdge n (a0,a1) = ((g_sGraphOk a0).bind fun r0=> bif !r0.1 then some true else (g_sHasEdge (a0,a1)).bind fun r1=> some !r1.1).bind fun x2=> bif x2 then some (((0:Int),[],false),()) else (g_sl05Without (a0.2,a1)).bind fun r3=> some ((a0.1,r3.1,true),()):=by kernel_rfl
def c_sModel:TC:=
 (zS [zAm 2,zDk 3 1,zHd 4 1000000005,zAa 5] (zS [zGs 1000000007 9 9,zGt 1000000007 2 0 9 10 10,[⟨false,[],[1000000007],.det 1 (.sli [.i .i64,.i .i64] []),[11],(some 11),none⟩],zID 1000000007 12 12 2 1,[⟨false,[],[1000000007],.det 2 (.app (some 11) 13),[14,11],(some 14),none⟩],zHg 10 14 15 14 15,zHd 6 1000000007,zDa 6 15 6 15] (zQ (.seq (.join [⟨32,[.b],false⟩] 8589869056 none (zR [zIf 16 3 1,zBy 18 139 17 4,zJk 19 18,zIq 21 4 3 2 4,zGj 23 22 0 4,zBA 24 23 4,zIA 25 8 3 2 8,zIA 27 8 2 0 8,zDq 29 26 28 8,zDu 24 29 30 30 4,zIt 31 30 4 20])) (zC 32 (zS [zIm 33 6 2 4 4 6,zGg 5 3] .ret) .skip)) (zQ (zS [zJy 34 3 1 4] (zC 36 (zQ (zS [zIf 37 3 3,zBy 39 139 38 3,zBz 40 39] (zC 40 (zS [zIm 41 6 2 4 4 6,zGg 5 3] .ret) .skip)) (zS [zIm 42 6 2 4 4 6,zGg 5 1] .ret)) .skip)) (zQ (.seq (.join [⟨65,[.b],false⟩] 73786967498745184256 none (zR [zIf 43 3 3,zHh 45 44,zKi 46 45 3 3 3 3,zIA 49 3 2 0 3,zDq 51 48 50 3,zBs 46 51 52,zJk 53 52,zIw 55 11 3 2,zIw 57 11 3 3,zDt 59 56 58 11,zBA 60 59 11,zIs 61 17 3 1,zEt 63 62 3 17,zLa 60 63 64 64 11 54])) (zC 65 (zS [zIm 66 6 2 4 4 6,zGg 5 3] .ret) .skip)) (zQ (zS [zJy 67 3 1 3] (zC 69 (zQ (zS [zAx 70 2 2,zIv 71 3 2 3 3,zGn 75 150 70 72 74] (zC 75 (zS [zIm 76 6 2 4 4 6,zGg 5 1] .ret) .skip)) (zS [zIm 77 6 2 4 4 6,zGg 5 2] .ret)) .skip)) (zS [zGr 1000000008 2 2 79 79,zGr 1000000008 3 4 80 80,zHi 1000000008 152 80 81 81,[⟨false,[],[1000000008],.call 1 151 [.t 79,.t 81] .no,[82],(some 82),none⟩,⟨false,[],[1000000008],.det 2 (.copy 82),[78,82],(some 78),none⟩,⟨false,[],[1000000008],.det 2 (.ext 78 0 2),[83,78],(some 83),none⟩,⟨false,[],[1000000008],.det 1 (.ext 78 2 1),[84],(some 84),none⟩],zHd 7 1000000008,zKb 7 83 7 83] (zQ (.join [⟨7,Ty20,false⟩,⟨8,[.b],false⟩] 39575395630904500663181377920 none (zS [zJy 85 3 1 2] (zC 87 (zR [zAx 89 2 2,zJi 90 3 4 152,zKw 92 153 89 91 88 2 2,zKb 7 93 7 93]) .skip))) (zQ (zS [zAb 95 8,zBz 96 95] (zC 96 (zS [zIm 97 6 2 4 4 6,zGg 5 2] .ret) .skip)) (zS [zIm 98 7 2 4 4 7,zGg 5 1] .ret))))))))))
def s_sModel:Sig:=⟨[.rd true Ct19,.rd true [.d,.d,.d,.d]],(.tup [(true,2),(false,1)] Ct17)⟩
def E_sModel:TEnv:=envOf [(139,p_sl01In),(150,p_sTogether),(152,p_sl12Edge),(151,p_sAddEdge),(153,p_sTakeEdge)]
def f_sModel (n:Nat):Zt17 × Zt19->Option ((Int × List Zt20 × Int) × Unit):=runFn n E_sModel c_sModel [Ty20,Ty19] Ty16 [] [4,5] .no
def g_sModel:=f_sModel BIG
def p_sModel:TSp:=⟨s_sModel,[Ty20,Ty19],Ty16,[],Ou.j .no,g_sModel⟩
theorem k_sModel:zK E_sModel 97 s_sModel c_sModel 99 .no [4,5]:=by show _=_;kernel_rfl
theorem ok_sModel:p_sModel.Ok PG 97:=mkOk (env_cons ok_sl01In (env_cons ok_sTogether (env_cons ok_sl12Edge (env_cons ok_sAddEdge (env_cons ok_sTakeEdge (env_nil PG)))))) k_sModel (by kernel_rfl)
theorem e_sModel (n) (a0) (a1):f_sModel n (a0,a1) = bif decide (0+a0.2.length<=4294967296) then ((g_sl01In (a1.2.1,(1:Int),(4:Int))).bind fun r0=> bif !r0.1 then some true else bif decide (0<=a1.2.2.1) then some (!(decide (a1.2.2.1<a0.1))) else some true).bind fun x1=> bif x1 then some ((a0.1,[]++a0.2,(3:Int)),()) else bif decide (a1.2.1=4) then (g_sl01In (a1.2.2.2,(1:Int),(3:Int))).bind fun r2=> bif !r2.1 then some ((a0.1,[]++a0.2,(3:Int)),()) else some ((a0.1,[]++a0.2,(1:Int)),()) else (bif decide (0<=a1.2.2.2) then bif !(decide (a1.2.2.2<a0.1)) then some true else bif decide (a1.2.2.1=a1.2.2.2) then some (!decide (a1.2.1=3)) else some false else some true).bind fun x3=> bif x3 then some ((a0.1,[]++a0.2,(3:Int)),()) else bif decide (a1.2.1=3) then (g_sTogether (a0,a1.2.2.1,a1.2.2.2)).bind fun r4=> bif r4.1 then some ((a0.1,[]++a0.2,(1:Int)),()) else some ((a0.1,[]++a0.2,(2:Int)),()) else (g_sl12Edge a1).bind fun r5=> (g_sAddEdge (a0,r5.1)).bind fun r6=> (bif decide (a1.2.1=2) then (g_sl12Edge a1).bind fun r7=> (g_sTakeEdge (a0,r7.1)).bind fun r8=> some ((r8.1.1,r8.1.2.1),r8.1.2.2) else some ((r6.1.1,r6.1.2.1),r6.1.2.2)).bind fun x9=> bif !x9.2 then some ((a0.1,[]++a0.2,(2:Int)),()) else some ((x9.1.1,x9.1.2,(1:Int)),()) else none:=by kernel_rfl
def c_sl15Graph:TC:=
 (zS [zHd 4 1000000005,zBo 5] (zS [zAb 11 0,zHj 12 11,zHd 6 1000000007,zDa 6 12 6 12] (zQ (.join [⟨4,Ty20,false⟩,⟨6,Ty20,false⟩] 35184372082672 (some [⟨4,Ty20,false⟩,⟨5,[.b],false⟩]) (zS [zAa 7] (.block 0 (.loop [⟨4,Ty20,false⟩,⟨6,Ty20,false⟩,⟨7,[.i .i64],false⟩] 35184372082672 (zQ (zS [zIr 13 7 1] (zC 16 .skip (.exit 0))) (zQ (.join [⟨4,Ty20,false⟩,⟨6,Ty20,false⟩] 35184371566448 (some [⟨4,Ty20,false⟩,⟨5,[.b],false⟩]) (.block 1 (zS [zIE 19 1 7 6 6,zBd 8 1000000009,zAy 8 8 22] (zQ (zS [zJy 23 8 5 3] (zC 25 (.exit 1) .skip)) (zS [zBa 27 6 2,zIu 28 8 1 4,zKw 30 97 27 29 26 2 2,zHd 9 1000000010,zKb 9 31 9 31] (zQ (.seq (.join [⟨42,[.b],false⟩] 8787503087616 none (zR [zAb 33 10,zIf 34 8 5,zDB 36 33 35,zAb 37 36,zDm 38 4,zEo 39 38 4,zDn 40 8 2 39 4,zEt 41 40 4 4,zBs 37 41 42])) (zC 42 (zS [zHe 43,zDa 4 43 4 43,zBo 5] .ret) .skip)) (zR [zBa 44 9 2,zHk 44 6 44 6 44 44 9 27]))))))) (zR [zIo 17 7 7]))))))) (zS [zIm 45 6 2 4 4 6,zDh 5] .ret))))
def s_sl15Graph:Sig:=⟨[.rd false [.d],.rd false Ct13],(.tup [(true,2),(false,1)] Ct17)⟩
def E_sl15Graph:TEnv:=envOf [(97,p_sModel)]
def f_sl15Graph (n:Nat):Int × (List Zt14)->Option (Zt15 × Unit):=runFn n E_sl15Graph c_sl15Graph [[.i .i64],Ty11] Ty18 [] [4,5] .no
def g_sl15Graph:=f_sl15Graph BIG
def p_sl15Graph:TSp:=⟨s_sl15Graph,[[.i .i64],Ty11],Ty18,[],Ou.j .no,g_sl15Graph⟩
theorem k_sl15Graph:zK E_sl15Graph 51 s_sl15Graph c_sl15Graph 46 .no [4,5]:=by show _=_;kernel_rfl
theorem ok_sl15Graph:p_sl15Graph.Ok PG 51:=mkOk (env_cons ok_sModel (env_nil PG)) k_sl15Graph (by kernel_rfl)
theorem e_sl15Graph (n) (a0) (a1):f_sl15Graph n (a0,a1) =
 (loopT n (X:=Zt17 × Zt17 × Int) (B:=(Zt17 × Zt17) ⊕ (Zt17 × Bool)) (fun self1 x0=>
  bif decide (x0.2.2<(a1.length:Int)) then
   (bnd a1.length x0.2.2 fun n2=>
    a1[n2]?.bind fun y3=>
    bif decide (y3.2.2.2.2.2=3) then
     some (Sum.inl (x0.1,x0.2.1))
    else (g_sModel (x0.2.1,(y3.2.1,y3.2.2.1,y3.2.2.2.1,y3.2.2.2.2.1))).bind fun r4=>
    (bif !decide (r4.1.2.2=y3.2.2.2.2.2) then
     some (!decide (y3.2.2.1=4))
     else some false).bind fun x5=>
    bif x5 then
     some (Sum.inr (((0:Int),[]),false))
    else some (Sum.inl (x0.1,(r4.1.1,r4.1.2.1))):Option ((Zt17 × Zt17) ⊕ (Zt17 × Bool))).bind fun y=>match y with
   | .inl x6=>
    self1 (x6.1,x6.2,IntKind.wrap .i64 (x0.2.2+1))
   | .inr x6=>
    some (Sum.inr (x6.1,x6.2))
  else some (Sum.inl (x0.1,x0.2.1))) (((0:Int),[]),(a0,[]),(0:Int))).bind fun y=>match y with
 | .inl x7=>
  some ((x7.2.1,x7.2.2,true),())
 | .inr x7=>
  some ((x7.1.1,x7.1.2,x7.2),()):=by kernel_rfl
def c_sFollows:TC:=
 (zS [zBo 4] (zS [zIh 8 0 1,zAj 10 51 8 9,zAs 10 7 10,zGo 7 2 11 7,zGp 12 7 2,zHd 5 1000000006,zKb 5 11 5 11] (zS [zJc 13 6 4] .ret)))
def s_sFollows:Sig:=⟨[.rd false [.d],.rd false Ct13],(.one false [.d])⟩
def E_sFollows:TEnv:=envOf [(51,p_sl15Graph)]
def f_sFollows (n:Nat):Int × (List Zt14)->Option ((Bool) × Unit):=runFn n E_sFollows c_sFollows [[.i .i64],Ty11] [.b] [] [4] .no
def g_sFollows:=f_sFollows BIG
def p_sFollows:TSp:=⟨s_sFollows,[[.i .i64],Ty11],[.b],[],Ou.j .no,g_sFollows⟩
theorem k_sFollows:zK E_sFollows 18 s_sFollows c_sFollows 14 .no [4]:=by show _=_;kernel_rfl
theorem ok_sFollows:p_sFollows.Ok PG 18:=mkOk (env_cons ok_sl15Graph (env_nil PG)) k_sFollows (by kernel_rfl)
theorem e_sFollows (n) (a0) (a1):f_sFollows n (a0,a1) = (g_sl15Graph (a0,a1)).bind fun r0=> some (r0.1.2.2,()):=by kernel_rfl
def c_sl15Place:TC:=
 (zS [zAa 4] (zQ (.join [] 1048560 (some [⟨4,[.i .i64],false⟩]) (zS [zAa 5] (.block 0 (.loop [⟨5,[.i .i64],false⟩] 1048560 (zQ (zS [zKs 6 5 0 8,zAg 9 6 8] (zC 9 .skip (.exit 0))) (zQ (.block 1 (zS [zIh 12 0 5,zKx 14 12 13 6 1,zAb 17 1,zEb 18 16 17] (zC 18 (zS [zJc 19 5 4] .ret) .skip))) (zR [zIo 10 5 5]))))))) (zS [zAf] .ret)))
def s_sl15Place:Sig:=⟨[.rd false Ct13,.rd false [.d]],(.one false [.d])⟩
def E_sl15Place:TEnv:=envOf []
def f_sl15Place (n:Nat):(List Zt14) × Int->Option ((Int) × Unit):=runFn n E_sl15Place c_sl15Place [Ty11,[.i .i64]] [.i .i64] [] [4] .no
def g_sl15Place:=f_sl15Place BIG
def p_sl15Place:TSp:=⟨s_sl15Place,[Ty11,[.i .i64]],[.i .i64],[],Ou.j .no,g_sl15Place⟩
theorem k_sl15Place:zK E_sl15Place 52 s_sl15Place c_sl15Place 20 .no [4]:=by show _=_;kernel_rfl
theorem ok_sl15Place:p_sl15Place.Ok PG 52:=mkOk (env_nil PG) k_sl15Place (by kernel_rfl)
theorem e_sl15Place (n) (a0) (a1):f_sl15Place n (a0,a1) = (loopT n (X:=Int) (B:=(Unit) ⊕ (Int)) (fun self1 x0=> bif decide (x0<(a0.length:Int)) then bnd a0.length x0 fun n2=> a0[n2]?.bind fun y3=> bif decide (y3.1=a1) then some (Sum.inr x0) else self1 (IntKind.wrap .i64 (x0+1)) else some (Sum.inl ())) (0:Int)).bind fun y=>match y with | .inl x4=> some ((-1:Int),()) | .inr x4=> some (x4,()):=by kernel_rfl
def c_sInTime:TC:=
 (zS [zBo 4] (zQ (.join [] 1208925819614629174706160 (some [⟨4,[.b],false⟩]) (zS [zAa 5] (.block 0 (.loop [⟨5,[.i .i64],false⟩] 1208925819614629174706160 (zQ (zS [zJC 8 5 0 8] (zC 11 .skip (.exit 0))) (zQ (.join [] 1208925819614629174690000 (some [⟨4,[.b],false⟩]) (.block 1 (zQ (zS [zIh 14 0 5,zKc 16 14 15 7 5 1,zAe 19 18] (zC 19 (.exit 1) .skip)) (zS [zIh 20 1 0,zAb 22 5,zJr 23 21 22,zBw 25 24,zAi 26 21 7 25 1,zAj 27 52 20 26,zAb 6 27] (zQ (.seq (.join [⟨42,[.b],false⟩] 8795824586752 none (zR [zIz 28 6,zAb 30 29,zBA 31 1 2,zLi 32 6 2 31 2,zGE 34 33 2,zHm 35 31 6 5 34 2,zBA 36 0 2,zLi 37 5 2 36 2,zGE 39 38 2,zHm 40 36 7 6 39 2,zJx 41 35 40 2 30])) (zC 42 (zS [zBo 4] .ret) .skip)) (zS [zAa 7] (.block 2 (.loop [⟨7,[.i .i64],false⟩] 1208925819605833081684112 (zQ (zS [zIr 43 7 0] (zC 46 .skip (.exit 2))) (zQ (.join [] 1208925819051679221284880 (some [⟨4,[.b],false⟩]) (.block 3 (zQ (.join [⟨79,[.b],false⟩] 1208925819051679221284864 none (zR [zIh 49 0 7,zKc 51 49 50 7 5 1,zHh 54 53,zKy 55 54 0 6,zBq 57 7 6,zDw 58 56 57 6,zEo 59 58 6,[o2 60 (.load 56 [(0,7)] 5 (.t 59) 1 false) 6 true],zBq 61 0 6,zBq 62 5 6,zDw 63 61 62 6,zEo 64 63 6,[o2 65 (.load 61 [(0,7)] 4 (.t 64) 1 false) 6 true],zDq 66 60 65 6,zIx 55 66 67,zBq 69 1 19,zBq 70 0 19,zBq 71 7 19,zDw 72 70 71 19,zEo 73 72 19,zEo 74 73 19,zEp 75 70 7 74 19,zDy 52 69 75 76 76 19,zBq 77 6 19,[o2 78 (.data (.bin .geq) [.t 76,.t 77]) 19 true],zBs 68 78 79])) (zC 79 (zS [zBo 4] .ret) .skip)))) (zR [zIo 47 7 7]))))))))))) (zR [zIo 12 5 5]))))))) (zS [zDh 4] .ret)))
def s_sInTime:Sig:=⟨[.rd false Ct12,.rd false Ct13],(.one false [.d])⟩
def E_sInTime:TEnv:=envOf [(52,p_sl15Place)]
def f_sInTime (n:Nat):(List Zt11) × (List Zt14)->Option ((Bool) × Unit):=runFn n E_sInTime c_sInTime [Ty9,Ty11] [.b] [] [4] .no
def g_sInTime:=f_sInTime BIG
def p_sInTime:TSp:=⟨s_sInTime,[Ty9,Ty11],[.b],[],Ou.j .no,g_sInTime⟩
theorem k_sInTime:zK E_sInTime 19 s_sInTime c_sInTime 80 .no [4]:=by show _=_;kernel_rfl
theorem ok_sInTime:p_sInTime.Ok PG 19:=mkOk (env_cons ok_sl15Place (env_nil PG)) k_sInTime (by kernel_rfl)
theorem e_sInTime (n) (a0) (a1):f_sInTime n (a0,a1) =
 (loopT n (X:=Int) (B:=(Unit) ⊕ (Bool)) (fun self1 x0=>
  bif decide (x0<(a0.length:Int)) then
   (bnd a0.length x0 fun n2=>
    a0[n2]?.bind fun y3=>
    bif decide (y3.2.2.2.2.2.1<0) then
     some (Sum.inl ())
    else bnd a0.length x0 fun n4=>
    a0[n4]?.bind fun y5=>
    (g_sl15Place (a1,y5.1)).bind fun r6=>
    (bif decide (r6.1<0) then
     some true
     else bnd a1.length r6.1 fun n7=>
     a1[n7]?.bind fun y8=>
     bnd a0.length x0 fun n9=>
     a0[n9]?.bind fun y10=>
     some (!decide (y8.2.2.2.2.2=y10.2.2.2.2.2.2))).bind fun x11=>
    bif x11 then
     some (Sum.inr false)
    else loopT n (X:=Int) (B:=(Unit) ⊕ (Bool)) (fun self13 x12=>
     bif decide (x12<(a0.length:Int)) then
      ((bnd a0.length x12 fun n14=>
       a0[n14]?.bind fun y15=>
       bif decide (0<=y15.2.2.2.2.2.1) then
        bnd a0.length x12 fun n16=>
        a0[n16]?.bind fun y17=>
        bnd a0.length x0 fun n18=>
        a0[n18]?.bind fun y19=>
        bif decide (y17.2.2.2.2.2.1<y19.2.2.2.2.1) then
         bnd a0.length x12 fun n20=>
         a0[n20]?.bind fun y21=>
         (g_sl15Place (a1,y21.1)).bind fun r22=>
         some (decide (r6.1<=r22.1))
        else some false
       else some false).bind fun x23=>
       bif x23 then
        some (Sum.inr false)
       else some (Sum.inl ())).bind fun y=>match y with
      | .inl x24=>
       self13 (IntKind.wrap .i64 (x12+1))
      | .inr x24=>
       some (Sum.inr x24)
     else some (Sum.inl ())) (0:Int):Option ((Unit) ⊕ (Bool))).bind fun y=>match y with
   | .inl x25=>
    self1 (IntKind.wrap .i64 (x0+1))
   | .inr x25=>
    some (Sum.inr x25)
  else some (Sum.inl ())) (0:Int)).bind fun y=>match y with
 | .inl x26=>
  some (true,())
 | .inr x26=>
  some (x26,()):=by kernel_rfl
def c_sGraphOf:TC:=
 (zS [zAm 1,zHd 2 1000000003] (zS [zIj 5 1 0 5,zHj 7 6,zHd 3 1000000004,zDa 3 7 3 7] (zQ (.join [⟨3,Ty20,false⟩] 8589934360 none (zS [zAa 4] (.block 0 (.loop [⟨3,Ty20,false⟩,⟨4,[.i .i64],false⟩] 8589934360 (zQ (zS [zAb 8 4,zIj 9 1 1 9,zIk 11 10 8] (zC 12 .skip (.exit 0))) (zQ (.block 1 (zR [zAb 19 4,zAb 25 4,zJD 15 3 1,zIf 17 1 1,zKx 20 18 19 4 1,zIf 23 1 1,zKc 26 24 25 4 1 1,zGa 29 22 28,zGb 30 29,zDc 16 16 30 31 16 16 3 31,zAn 32,zDd 3 31 16 3 1 32 31])) (zR [zIo 13 4 4]))))))) (zS [zIm 33 3 2 2 2 3] .ret))))
def s_sGraphOf:Sig:=⟨[.rd true Ct15],(.one true Ct19)⟩
def E_sGraphOf:TEnv:=envOf []
def f_sGraphOf (n:Nat):Zt12->Option (Zt17 × Unit):=runFn n E_sGraphOf c_sGraphOf [Ty15] Ty20 [] [2] .no
def g_sGraphOf:=f_sGraphOf BIG
def p_sGraphOf:TSp:=⟨s_sGraphOf,[Ty15],Ty20,[],Ou.j .no,g_sGraphOf⟩
theorem k_sGraphOf:zK E_sGraphOf 154 s_sGraphOf c_sGraphOf 34 .no [2]:=by show _=_;kernel_rfl
theorem ok_sGraphOf:p_sGraphOf.Ok PG 154:=mkOk (env_nil PG) k_sGraphOf (by kernel_rfl)
theorem e_sGraphOf (n) (a0):f_sGraphOf n a0 = (loopT n (X:=Zt17 × Int) (B:=Zt17) (fun self1 x0=> bif decide (x0.2<(a0.2.length:Int)) then bnd a0.2.length x0.2 fun n2=> a0.2[n2]?.bind fun y3=> bnd a0.2.length x0.2 fun n4=> a0.2[n4]?.bind fun y5=> bif decide (x0.1.2.length+([(y3.1,y5.2.1)]).length<=4294967296) then self1 ((x0.1.1,x0.1.2++([(y3.1,y5.2.1)])),IntKind.wrap .i64 (x0.2+1)) else none else some x0.1) ((a0.1,[]),(0:Int))).bind fun x6=> some (x6,()):=by kernel_rfl
def c_sOwned:TC:=
 (zS [zAm 1,zAz 2] (zS [zDe 3,zKg 4 1 1 4 2,zAA 6 154 5,[o5 (.ext 6 1 1) 7 6],zBv 3 7 8 3,zAs 8 2 8] .ret))
def s_sOwned:Sig:=⟨[.rd true Ct6],(.one false Ct20)⟩
def E_sOwned:TEnv:=envOf [(154,p_sGraphOf)]
def f_sOwned (n:Nat):Zt8->Option ((List Zt20) × Unit):=runFn n E_sOwned c_sOwned [Ty7] [.sl [.i .i64,.i .i64]] [] [2] .no
def g_sOwned:=f_sOwned BIG
def p_sOwned:TSp:=⟨s_sOwned,[Ty7],[.sl [.i .i64,.i .i64]],[],Ou.j .no,g_sOwned⟩
theorem k_sOwned:zK E_sOwned 98 s_sOwned c_sOwned 9 .no [2]:=by show _=_;kernel_rfl
theorem ok_sOwned:p_sOwned.Ok PG 98:=mkOk (env_cons ok_sGraphOf (env_nil PG)) k_sOwned (by kernel_rfl)
theorem e_sOwned (n) (a0):f_sOwned n a0 = (g_sGraphOf (a0.2.1,a0.2.2.1)).bind fun r0=> bif decide (0+r0.1.2.length<=4294967296) then some ([]++r0.1.2,()) else none:=by kernel_rfl
def c_sWholeEdges:TC:=
 (zS [zAz 4,zBo 5] (zS [zDe 10,zAs 10 6 10] (zS [zDe 11,zAb 12 1,zJw 11 12 13 11 7] (zQ (.join [⟨7,[.sl [.i .i64,.i .i64]],false⟩] 67092864 none (zS [zAa 8] (.block 0 (.loop [⟨7,[.sl [.i .i64,.i .i64]],false⟩,⟨8,[.i .i64],false⟩] 67092864 (zQ (zS [zIr 14 8 0] (zC 17 .skip (.exit 0))) (zQ (.block 1 (zR [zAs 7 20 7,zIE 21 0 8 1 1,zJw 20 24 25 20 7])) (zR [zIo 18 8 8]))))))) (zQ (.join [⟨6,[.sl [.i .i64,.i .i64]],false⟩] 35184304980592 (some [⟨4,[.sl [.i .i64,.i .i64]],false⟩,⟨5,[.b],false⟩]) (zS [zAa 9] (.block 2 (.loop [⟨6,[.sl [.i .i64,.i .i64]],false⟩,⟨9,[.i .i64],false⟩] 35184304980592 (zQ (zS [zAb 26 9,zAt 27 7,zIk 28 27 26] (zC 29 .skip (.exit 2))) (zQ (.block 3 (zQ (zS [zAt 32 6,zAt 33 7,zAb 34 9,zJh 35 33 34 7 2 2,zAj 37 155 32 36] (zC 37 (zS [zDe 38,zAs 38 4 38,zBo 5] .ret) .skip)) (zR [zHn 6 39 6 32 39,zAt 40 7,zAb 41 9,zJh 42 40 41 7 2 2,zAj 44 156 39 43,zHn 44 6 44 32 6]))) (zR [zIo 30 9 9]))))))) (zS [zJb 6 45 6 4,zDh 5] .ret))))))
def s_sWholeEdges:Sig:=⟨[.rd false Ct10,.rd false Ct20],(.tup [(false,1),(false,1)] [.sl (.own none) [.d,.d],.d])⟩
def E_sWholeEdges:TEnv:=envOf [(155,p_sl05Has),(156,p_sl05Put)]
def f_sWholeEdges (n:Nat):(List (List Zt20)) × (List Zt20)->Option ((List Zt20 × Bool) × Unit):=runFn n E_sWholeEdges c_sWholeEdges [Ty22,[.sl [.i .i64,.i .i64]]] Ty25 [] [4,5] .no
def g_sWholeEdges:=f_sWholeEdges BIG
def p_sWholeEdges:TSp:=⟨s_sWholeEdges,[Ty22,[.sl [.i .i64,.i .i64]]],Ty25,[],Ou.j .no,g_sWholeEdges⟩
theorem k_sWholeEdges:zK E_sWholeEdges 100 s_sWholeEdges c_sWholeEdges 46 .no [4,5]:=by show _=_;kernel_rfl
theorem ok_sWholeEdges:p_sWholeEdges.Ok PG 100:=mkOk (env_cons ok_sl05Has (env_cons ok_sl05Put (env_nil PG))) k_sWholeEdges (by kernel_rfl)
theorem e_sWholeEdges (n) (a0) (a1):f_sWholeEdges n (a0,a1) = bif decide (0+a1.length<=4294967296) then (loopT n (X:=(List Zt20) × Int) (B:=(List Zt20)) (fun self1 x0=> bif decide (x0.2<(a0.length:Int)) then bnd a0.length x0.2 fun n2=> a0[n2]?.bind fun y3=> bif decide (x0.1.length+y3.length<=4294967296) then self1 (x0.1++y3,IntKind.wrap .i64 (x0.2+1)) else none else some x0.1) ([]++a1,(0:Int))).bind fun x4=> (loopT n (X:=(List Zt20) × Int) (B:=((List Zt20)) ⊕ ((List Zt20) × Bool)) (fun self6 x5=> bif decide (x5.2<(x4.length:Int)) then bnd x4.length x5.2 fun n7=> x4[n7]?.bind fun y8=> (g_sl05Has (x5.1,y8)).bind fun r9=> bif r9.1 then some (Sum.inr ([],false)) else bnd x4.length x5.2 fun n10=> x4[n10]?.bind fun y11=> (g_sl05Put (x5.1,y11)).bind fun r12=> self6 (r12.1,IntKind.wrap .i64 (x5.2+1)) else some (Sum.inl x5.1)) ([],(0:Int))).bind fun y=>match y with | .inl x13=> some ((x13,true),()) | .inr x13=> some (x13,()) else none:=by kernel_rfl
def c_sOnce:TC:=
 (zS [zKh 1] (zS [zHo 8,[⟨false,[8],[],.det 2 (.copy 8),[3,8,8],(some 3),none⟩]] (zQ (.join [⟨3,Ty22,false⟩] 35184372088380 (some [⟨2,[.b],false⟩]) (zS [zAa 4] (.block 0 (.loop [⟨3,Ty22,false⟩,⟨4,[.i .i64],false⟩] 35184372088380 (zQ (zS [zAb 9 4,zIf 10 1 16,zIk 12 11 9] (zC 13 .skip (.exit 0))) (zQ (.join [⟨3,Ty22,false⟩] 35184372023340 (some [⟨2,[.b],false⟩]) (.block 1 (zS [zAn 16,zAo 17 1 16 16,zJa 18 4 17 7 7,zAA 21 98 20,zAs 21 5 21] (zS [zAs 3 22 3,[⟨true,[5],[],.det 1 (.copy 5),[23,5],(some 23),none⟩],zHp 24 23,zJw 22 24 25 22 3] (zQ (.join [⟨44,[.b],false⟩] 35184304979968 none (zR [zJf 26,zBw 28 27,zBw 29 28,zAo 30 1 7 29,zEy 31 30 4,zAb 32 31,zDm 33 6,zEo 34 33 6,zDn 35 1 2 34 6,zBq 36 5 6,zBq 37 4 6,zEq 38 37 6,zHq 99 35 36 38 39 39 6,zGz 40 39 6,zBq 41 5 6,zGz 42 41 6,[o2 43 (.data (.bin .neq) [.t 40,.t 42]) 6 true],zBs 32 43 44])) (zC 44 (zS [zBo 2] .ret) .skip)))))) (zR [zIo 14 4 4]))))))) (zS [zAs 3 46 3,zJt 47 1 3,zKw 50 100 46 49 45 1 1,zAs 51 6 51,zAb 7 52] (zS [zJc 53 7 2] .ret)))))
def s_sOnce:Sig:=⟨[.rd true Ct0],(.one false [.d])⟩
def E_sOnce:TEnv:=envOf [(98,p_sOwned),(99,p_sInside),(100,p_sWholeEdges)]
def f_sOnce (n:Nat):Zt0->Option ((Bool) × Unit):=runFn n E_sOnce c_sOnce [Ty0] [.b] [] [2] .no
def g_sOnce:=f_sOnce BIG
def p_sOnce:TSp:=⟨s_sOnce,[Ty0],[.b],[],Ou.j .no,g_sOnce⟩
theorem k_sOnce:zK E_sOnce 53 s_sOnce c_sOnce 54 .no [2]:=by show _=_;kernel_rfl
theorem ok_sOnce:p_sOnce.Ok PG 53:=mkOk (env_cons ok_sOwned (env_cons ok_sInside (env_cons ok_sWholeEdges (env_nil PG)))) k_sOnce (by kernel_rfl)
theorem e_sOnce (n) (a0):f_sOnce n a0 =
 (loopT n (X:=(List ((List Zt20))) × Int) (B:=((List ((List Zt20)))) ⊕ (Bool)) (fun self1 x0=>
  bif decide (x0.2<(a0.2.2.2.2.2.2.2.2.2.2.2.2.2.2.2.2.1.length:Int)) then
   (bnd a0.2.2.2.2.2.2.2.2.2.2.2.2.2.2.2.2.1.length x0.2 fun n2=>
    a0.2.2.2.2.2.2.2.2.2.2.2.2.2.2.2.2.1[n2]?.bind fun y3=>
    (g_sOwned y3).bind fun r4=>
    bif decide (x0.1.length+[r4.1].length<=4294967296) then
     (bif !decide (a0.2.2.2.2.2.2.2.1=4) then
      (g_sInside (a0.2.2.1,r4.1,IntKind.wrap .i64 (x0.2+1))).bind fun r5=>
      some (!decide ((r5.1.length:Int)=(r4.1.length:Int)))
      else some false).bind fun x6=>
     bif x6 then
      some (Sum.inr false)
     else some (Sum.inl (x0.1++[r4.1]))
    else none:Option (((List ((List Zt20)))) ⊕ (Bool))).bind fun y=>match y with
   | .inl x7=>
    self1 (x7,IntKind.wrap .i64 (x0.2+1))
   | .inr x7=>
    some (Sum.inr x7)
  else some (Sum.inl x0.1)) ([],(0:Int))).bind fun y=>match y with
 | .inl x8=>
  (g_sWholeEdges (x8,a0.2.2.2.1)).bind fun r9=>
  some (r9.1.2,())
 | .inr x8=>
  some (x8,()):=by kernel_rfl
def c_sl05SameInts:TC:=
 (zS [zBo 4] (zQ (zS [zKj 6 0 6 8 1 8] (zC 10 (zS [zBo 4] .ret) .skip)) (zQ (.join [] 67106864 (some [⟨4,[.b],false⟩]) (zS [zAa 5] (.block 0 (.loop [⟨5,[.i .i64],false⟩] 67106864 (zQ (zS [zIr 11 5 0] (zC 14 .skip (.exit 0))) (zQ (.block 1 (zS [zKf 17 0 5 21 1 5 1 1 1 1,zDB 25 20 24] (zC 25 (zS [zBo 4] .ret) .skip))) (zR [zIo 15 5 5]))))))) (zS [zDh 4] .ret))))
def s_sl05SameInts:Sig:=⟨[.rd false Ct21,.rd false Ct21],(.one false [.d])⟩
def E_sl05SameInts:TEnv:=envOf []
def f_sl05SameInts (n:Nat):List Int × List (Int)->Option ((Bool) × Unit):=runFn n E_sl05SameInts c_sl05SameInts [[.sl [.i .i64]],[.sl [.i .i64]]] [.b] [] [4] .no
def g_sl05SameInts:=f_sl05SameInts BIG
def p_sl05SameInts:TSp:=⟨s_sl05SameInts,[[.sl [.i .i64]],[.sl [.i .i64]]],[.b],[],Ou.j .no,g_sl05SameInts⟩
theorem k_sl05SameInts:zK E_sl05SameInts 104 s_sl05SameInts c_sl05SameInts 26 .no [4]:=by show _=_;kernel_rfl
theorem ok_sl05SameInts:p_sl05SameInts.Ok PG 104:=mkOk (env_nil PG) k_sl05SameInts (by kernel_rfl)
theorem e_sl05SameInts (n) (a0) (a1):f_sl05SameInts n (a0,a1) = bif !decide ((a0.length:Int)=(a1.length:Int)) then some (false,()) else (loopT n (X:=Int) (B:=(Unit) ⊕ (Bool)) (fun self1 x0=> bif decide (x0<(a0.length:Int)) then bnd a0.length x0 fun n2=> a0[n2]?.bind fun y3=> bnd a1.length x0 fun n4=> a1[n4]?.bind fun y5=> bif !decide (y3=y5) then some (Sum.inr false) else self1 (IntKind.wrap .i64 (x0+1)) else some (Sum.inl ())) (0:Int)).bind fun y=>match y with | .inl x6=> some (true,()) | .inr x6=> some (x6,()):=by kernel_rfl
def c_sAgrees:TC:=
 (zS [zKh 1] (zQ (zS [zIu 11 1 1 15,zAA 13 101 12] (zC 13 (zS [zDh 2] .ret) .skip)) (zS [zIf 15 1 0,zJt 17 1 15,zKw 20 51 16 19 14 2 2,zHd 3 1000000004,zKb 3 21 3 21] (zS [zHo 23,zAs 23 5 23] (zQ (.join [⟨5,Ty22,false⟩] 1099494850656 none (zS [zAa 6] (.block 0 (.loop [⟨5,Ty22,false⟩,⟨6,[.i .i64],false⟩] 1099494850656 (zQ (zS [zAb 24 6,zIf 25 1 16,zIk 27 26 24] (zC 28 .skip (.exit 0))) (zQ (.block 1 (zR [zAs 5 31 5,zIf 32 1 16,zJa 34 6 33 7 7,zAA 37 98 36,zHr 37 38 37,zDj 31 38 39 31 38 39,zAs 39 5 39])) (zR [zIo 29 6 6]))))))) (zS [zAs 5 41 5,zJt 42 1 3,zKw 45 100 41 44 40 1 1,zAs 46 7 46,zAb 8 47] (zS [zIf 49 1 0,zJt 51 1 4,zJt 54 1 3,zGn 57 102 50 53 56,zJA 57 48 57 1 1,zAs 58 9 58,zAb 10 59] (zQ (.join [⟨2,[.b],false⟩] 604461756885809980506756 none (zR [zAb 60 4,zKy 61 60 8 1,zIx 61 62 63,zBq 65 10 4,zIx 64 65 66,zHs 7 68 7 68 7,zDm 69 7,zHt 70 3 1 69 7,zDy 103 68 70 71 71 7,zIx 67 71 72,zHs 9 74 9 74 13,zHu 75,zHv 105 75 76 76 13,zDy 104 74 76 77 77 13,zJe 73 77 78 2])) .ret))))))))
def s_sAgrees:Sig:=⟨[.rd true Ct0],(.one false [.d])⟩
def E_sAgrees:TEnv:=envOf [(101,p_sBusy),(51,p_sl15Graph),(98,p_sOwned),(100,p_sWholeEdges),(102,p_sWholeLabels),(103,p_sl05SameEdges),(105,p_sLabels),(104,p_sl05SameInts)]
def f_sAgrees (n:Nat):Zt0->Option ((Bool) × Unit):=runFn n E_sAgrees c_sAgrees [Ty0] [.b] [] [2] .no
def g_sAgrees:=f_sAgrees BIG
def p_sAgrees:TSp:=⟨s_sAgrees,[Ty0],[.b],[],Ou.j .no,g_sAgrees⟩
theorem k_sAgrees:zK E_sAgrees 54 s_sAgrees c_sAgrees 79 .no [2]:=by show _=_;kernel_rfl
theorem ok_sAgrees:p_sAgrees.Ok PG 54:=mkOk (env_cons ok_sBusy (env_cons ok_sl15Graph (env_cons ok_sOwned (env_cons ok_sWholeEdges (env_cons ok_sWholeLabels (env_cons ok_sl05SameEdges (env_cons ok_sLabels (env_cons ok_sl05SameInts (env_nil PG))))))))) k_sAgrees (by kernel_rfl)
theorem e_sAgrees (n) (a0):f_sAgrees n a0 = (g_sBusy (a0.2.1,a0.2.2.1,a0.2.2.2.1,a0.2.2.2.2.1,a0.2.2.2.2.2.1,a0.2.2.2.2.2.2.1,a0.2.2.2.2.2.2.2.1,a0.2.2.2.2.2.2.2.2.1,a0.2.2.2.2.2.2.2.2.2.1,a0.2.2.2.2.2.2.2.2.2.2.1,a0.2.2.2.2.2.2.2.2.2.2.2.1,a0.2.2.2.2.2.2.2.2.2.2.2.2.1,a0.2.2.2.2.2.2.2.2.2.2.2.2.2.1,a0.2.2.2.2.2.2.2.2.2.2.2.2.2.2.1,a0.2.2.2.2.2.2.2.2.2.2.2.2.2.2.2.1)).bind fun r0=> bif r0.1 then some (true,()) else (g_sl15Graph (a0.1,a0.2.2.2.2.2.2.2.2.2.2.2.2.2.2.2.1)).bind fun r1=> (loopT n (X:=(List ((List Zt20))) × Int) (B:=(List ((List Zt20)))) (fun self3 x2=> bif decide (x2.2<(a0.2.2.2.2.2.2.2.2.2.2.2.2.2.2.2.2.1.length:Int)) then bnd a0.2.2.2.2.2.2.2.2.2.2.2.2.2.2.2.2.1.length x2.2 fun n4=> a0.2.2.2.2.2.2.2.2.2.2.2.2.2.2.2.2.1[n4]?.bind fun y5=> (g_sOwned y5).bind fun r6=> bif decide (x2.1.length+[r6.1].length<=4294967296) then self3 (x2.1++[r6.1],IntKind.wrap .i64 (x2.2+1)) else none else some x2.1) ([],(0:Int))).bind fun x7=> (g_sWholeEdges (x7,a0.2.2.2.1)).bind fun r8=> (g_sWholeLabels (a0.1,a0.2.2.2.2.1,a0.2.2.2.1)).bind fun r9=> (bif r1.1.2.2 then bif r8.1.2 then bif r9.1.2 then (g_sl05SameEdges (r8.1.1,r1.1.2.1)).bind fun r10=> bif r10.1 then (g_sLabels (r1.1.1,r1.1.2.1)).bind fun r11=> (g_sl05SameInts (r9.1.1,r11.1)).bind fun r12=> some r12.1 else some false else some false else some false else some false).bind fun x13=> some (x13,()):=by kernel_rfl
def c_sl15Quiet:TC:=
 (zS [zKh 1] (zQ (.join [] 131068 (some [⟨2,[.b],false⟩]) (zS [zAa 3] (.block 0 (.loop [⟨3,[.i .i64],false⟩] 131068 (zQ (zS [zAb 4 3,zIj 5 1 18 5,zAc 7 6,zAg 8 4 7] (zC 8 .skip (.exit 0))) (zQ (.block 1 (zS [zIf 11 1 18,zJa 13 3 12 1 1,zBz 16 15] (zC 16 (zS [zDh 2] .ret) .skip))) (zR [zAb 9 3,zAk 10 9,zAb 3 10]))))))) (zQ (.join [⟨2,[.b],false⟩] 8257540 none (zR [zJi 17 1 22 53,zAb 19 18,zEr 20 1 22 2,zHv 54 20 21 21 2,zJe 19 21 22 2])) .ret)))
def s_sl15Quiet:Sig:=⟨[.rd true Ct0],(.one false [.d])⟩
def E_sl15Quiet:TEnv:=envOf [(53,p_sOnce),(54,p_sAgrees)]
def f_sl15Quiet (n:Nat):Zt0->Option ((Bool) × Unit):=runFn n E_sl15Quiet c_sl15Quiet [Ty0] [.b] [] [2] .no
def g_sl15Quiet:=f_sl15Quiet BIG
def p_sl15Quiet:TSp:=⟨s_sl15Quiet,[Ty0],[.b],[],Ou.j .no,g_sl15Quiet⟩
theorem k_sl15Quiet:zK E_sl15Quiet 20 s_sl15Quiet c_sl15Quiet 23 .no [2]:=by show _=_;kernel_rfl
theorem ok_sl15Quiet:p_sl15Quiet.Ok PG 20:=mkOk (env_cons ok_sOnce (env_cons ok_sAgrees (env_nil PG))) k_sl15Quiet (by kernel_rfl)
theorem e_sl15Quiet (n) (a0):f_sl15Quiet n a0 = (loopT n (X:=Int) (B:=(Unit) ⊕ (Bool)) (fun self1 x0=> bif decide (x0<(a0.2.2.2.2.2.2.2.2.2.2.2.2.2.2.2.2.2.2.1.length:Int)) then bnd a0.2.2.2.2.2.2.2.2.2.2.2.2.2.2.2.2.2.2.1.length x0 fun n2=> a0.2.2.2.2.2.2.2.2.2.2.2.2.2.2.2.2.2.2.1[n2]?.bind fun y3=> bif !y3 then some (Sum.inr true) else self1 (IntKind.wrap .i64 (x0+1)) else some (Sum.inl ())) (0:Int)).bind fun y=>match y with | .inl x4=> ((g_sOnce a0).bind fun r5=> bif r5.1 then (g_sAgrees a0).bind fun r6=> some r6.1 else some false).bind fun x7=> some (x7,()) | .inr x4=> some (x4,()):=by kernel_rfl
end
end Go.Fw
