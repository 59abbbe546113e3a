/- The given functions, as what they compute; each is shown to be what the code does. No conditions. -/
import Derived.Test.YtbdciplhpomakaaX0
set_option linter.unusedVariables false
set_option linter.unusedSimpArgs false
set_option linter.unusedSectionVars false
namespace Go.Fw
noncomputable section
def c_iWeb_look:TC:=
 (.seq (.rg [o1 4 (.a (.t 1)),
 o5 (.a (.c [.i .i64,.i .i64] [kV 0,kV 0])) 6 1000000007,
 o1 7 (.lit [.b] [.bool false])])
 (.seq (.rg [o1 15 (.p0),
 o1 16 (.same 15),
 o1 17 (.load 0 [] 0 (.t 16) 2 true),
 oc 18 2,
 o3 19 44 [.t 17,.t 18],
 o5 (.copy 19) 8 19])
 (.seq (.rg [o6 20 8,
 oi 21,
 o1 22 (.load 4 [] 0 (.t 21) 1 false),
 o1 23 (.index 20 (.t 22)),
 o1 24 (.load 8 [(0,1)] 0 (.t 23) 1 false),
 oc 9 24])
 (.seq (.join [⟨9,[.i .i64],false⟩] 35184338534912 none (.seq (.rg [o6 25 8,
 o6 26 8,
 o6 32 8,
 o6 33 8,
 oi 27,
 o1 28 (.load 4 [] 1 (.t 27) 1 false),
 o1 29 (.index 26 (.t 28)),
 o1 30 (.load 8 [(0,1)] 0 (.t 29) 1 false),
 o3 31 79 [.t 25,.t 30],
 oi 34,
 o1 35 (.load 4 [] 0 (.t 34) 1 false),
 o1 36 (.index 33 (.t 35)),
 o1 37 (.load 8 [(0,1)] 0 (.t 36) 1 false),
 o3 38 79 [.t 32,.t 37],
 o1 39 (.data (.bin .lss) [.t 31,.t 38])])
 (.cond (.t 39)
 (.rg [o6 40 8,
 oi 41,
 o1 42 (.load 4 [] 1 (.t 41) 1 false),
 o1 43 (.index 40 (.t 42)),
 o1 44 (.load 8 [(0,1)] 0 (.t 43) 1 false),
 oc 9 44])
 .skip)))
 (.seq (.rg [oc 45 2,
 o1 46 (.data (.bin .add) [.t 45,kD 1]),
 o1 47 (.data .min [.t 46,kD 4]),
 oc 10 47])
 (.seq (.join [⟨0,Ty2,false⟩] 1237940039285098799922419713 none (.seq (.rg [o1 48 (.p0),
 o1 49 (.same 48),
 o1 50 (.idx (.t 49)),
 o1 51 (.load 0 [] 1 (.t 50) 1 true),
 o1 52 (.len 51),
 o1 53 (kL 0)])
 (.block 0 (.loop [⟨0,Ty2,false⟩,⟨53,[.i .i64],false⟩] 1237940039278624875458205697
 (.seq (.rg [o1 54 (.data (.bin .lss) [.t 53,.t 52])])
 (.seq (.cond (.t 54)
 .skip
 (.exit 0))
 (.seq (.join [⟨0,Ty2,false⟩] 618970019606661340430604289 none (.block 1 (.seq (.rg [oc 55 53,
 oc 11 55])
 (.seq (.rg [o1 56 (.p0),
 o1 57 (.same 56),
 o1 58 (.idx (.t 57)),
 o1 59 (.load 0 [] 1 (.t 58) 1 true),
 oc 60 11,
 o1 61 (.index 59 (.t 60)),
 o1 12 (.same 61)])
 (.seq (.join [⟨84,[.b],false⟩] 38685621615982115163209728 none (.rg [o1 62 (.same 12),
 o1 63 (.same 62),
 o1 64 (.idx (.t 63)),
 o1 65 (.load 0 [(1,4)] 3 (.t 64) 1 false),
 oc 66 65,
 o2 67 (.same 12) 4 true,
 o2 68 (.same 67) 4 true,
 o2 69 (.idx (.t 68)) 4 true,
 o2 70 (.load 0 [(1,4)] 2 (.t 69) 1 false) 4 true,
 o2 71 (.copy 2) 4 true,
 o2 72 (.data (.bin .eql) [.t 70,.t 71]) 4 true,
 o7 66 (.t 72) (.c (.bool false)) 73,
 oc 74 73,
 ⟨true,[],[],.det 1 (.copy 8),[75],(some 75),some (12,true)⟩,
 o2 76 (.same 12) 12 true,
 o2 77 (.same 76) 12 true,
 o2 78 (.idx (.t 77)) 12 true,
 o2 79 (.load 0 [(1,4)] 0 (.t 78) 1 false) 12 true,
 o2 80 (.index 75 (.t 79)) 12 true,
 o2 81 (.load 8 [(0,1)] 0 (.t 80) 1 false) 12 true,
 o2 82 (.copy 9) 12 true,
 o2 83 (.data (.bin .eql) [.t 81,.t 82]) 12 true,
 o7 74 (.t 83) (.c (.bool false)) 84]))
 (.cond (.t 84)
 (.rg [o1 85 (.same 12),
 oc 86 10,
 o1 87 (.same 85),
 o1 88 (.idx (.t 87)),
 o4 1 [0,59] (.store 0 [(1,4)] 2 (.t 88) (.t 86))])
 .skip))))))
 (.rg [o1 89 (.data (.bin .add) [.t 53,kD 1]),
 oc 53 89]))))))))
 (.seq (.join [⟨0,Ty2,false⟩,⟨6,[.i .i64,.i .i64],false⟩] 1496577676626844588240572030761434526747400024907969 (some [⟨6,[.i .i64,.i .i64],false⟩,⟨7,[.b],false⟩,⟨0,Ty2,false⟩]) (.seq (.rg [o1 90 (.p0),
 o1 91 (.same 90),
 o1 92 (.idx (.t 91)),
 o1 93 (.load 0 [] 1 (.t 92) 1 true),
 o1 94 (.len 93),
 o1 95 (kL 0)])
 (.block 2 (.loop [⟨0,Ty2,false⟩,⟨6,[.i .i64,.i .i64],false⟩,⟨95,[.i .i64],false⟩] 1496577676626844588240543558140530963001077345050817
 (.seq (.rg [o1 96 (.data (.bin .lss) [.t 95,.t 94])])
 (.seq (.cond (.t 96)
 .skip
 (.exit 2))
 (.seq (.join [⟨0,Ty2,false⟩,⟨6,[.i .i64,.i .i64],false⟩] 748288838313422294120128178025708377388650374127809 (some [⟨6,[.i .i64,.i .i64],false⟩,⟨7,[.b],false⟩,⟨0,Ty2,false⟩]) (.block 3 (.seq (.rg [oc 97 95,
 oc 13 97])
 (.seq (.rg [o1 98 (.p0),
 o1 99 (.same 98),
 o1 100 (.idx (.t 99)),
 o1 101 (.load 0 [] 1 (.t 100) 1 true),
 oc 102 13,
 o1 103 (.index 101 (.t 102)),
 o1 14 (.same 103)])
 (.seq (.seq (.join [⟨137,[.b],false⟩] 348449143706758576982843927586183397244928 none (.rg [o1 104 (.same 14),
 o1 105 (.same 104),
 o1 106 (.idx (.t 105)),
 o1 107 (.load 0 [(1,4)] 3 (.t 106) 1 false),
 oc 108 107,
 o2 109 (.same 14) 4 false,
 o2 110 (.same 109) 4 false,
 o2 111 (.idx (.t 110)) 4 false,
 o2 112 (.load 0 [(1,4)] 2 (.t 111) 1 false) 4 false,
 o2 113 (.copy 2) 4 false,
 o2 114 (.data (.bin .neq) [.t 112,.t 113]) 4 false,
 o7 108 (.c (.bool true)) (.t 114) 115,
 oc 116 115,
 ⟨true,[],[],.det 1 (.copy 8),[117],(some 117),some (12,false)⟩,
 o2 118 (.same 14) 12 false,
 o2 119 (.same 118) 12 false,
 o2 120 (.idx (.t 119)) 12 false,
 o2 121 (.load 0 [(1,4)] 0 (.t 120) 1 false) 12 false,
 o2 122 (.index 117 (.t 121)) 12 false,
 o2 123 (.load 8 [(0,1)] 0 (.t 122) 1 false) 12 false,
 o2 124 (.copy 9) 12 false,
 o2 125 (.data (.bin .neq) [.t 123,.t 124]) 12 false,
 o2 126 (.copy 125) 12 false,
 ⟨true,[],[],.det 1 (.copy 8),[127],(some 127),some (22,true)⟩,
 o2 128 (.same 14) 22 true,
 o2 129 (.same 128) 22 true,
 o2 130 (.idx (.t 129)) 22 true,
 o2 131 (.load 0 [(1,4)] 1 (.t 130) 1 false) 22 true,
 o2 132 (.index 127 (.t 131)) 22 true,
 o2 133 (.load 8 [(0,1)] 0 (.t 132) 1 false) 22 true,
 o2 134 (.copy 9) 22 true,
 o2 135 (.data (.bin .neq) [.t 133,.t 134]) 22 true,
 ⟨false,[],[],.pick 126 (.t 135) (.c (.bool false)),[136],(some 136),some (12,false)⟩,
 o7 116 (.c (.bool true)) (.t 136) 137]))
 (.cond (.t 137)
 (.exit 3)
 .skip))
 (.seq (.seq (.rg [o6 138 8,
 o1 139 (.same 14),
 o6 145 8,
 o1 146 (.same 14),
 o1 140 (.same 139),
 o1 141 (.idx (.t 140)),
 o1 142 (.load 0 [(1,4)] 0 (.t 141) 1 false),
 o1 143 (.index 138 (.t 142)),
 o1 144 (.load 8 [(0,1)] 0 (.t 143) 1 false),
 o1 147 (.same 146),
 o1 148 (.idx (.t 147)),
 o1 149 (.load 0 [(1,4)] 1 (.t 148) 1 false),
 o1 150 (.index 145 (.t 149)),
 o1 151 (.load 8 [(0,1)] 0 (.t 150) 1 false),
 o1 152 (.data (.bin .neq) [.t 144,.t 151])])
 (.cond (.t 152)
 (.seq (.rg [o1 153 (.same 14),
 o1 154 (.same 153),
 o1 155 (.idx (.t 154)),
 o4 1 [0,101] (.store 0 [(1,4)] 3 (.t 155) (.c [.b] [.bool true]))])
 (.seq (.rg [o1 156 (.same 14),
 o1 160 (.same 14),
 o1 157 (.same 156),
 o1 158 (.idx (.t 157)),
 o1 159 (.load 0 [(1,4)] 0 (.t 158) 1 false),
 o1 161 (.same 160),
 o1 162 (.idx (.t 161)),
 o1 163 (.load 0 [(1,4)] 1 (.t 162) 1 false),
 o1 164 (.build [.i .i64,.i .i64] [(0,.t 159),(1,.t 163)]),
 o4 1 [6] (.store 6 [] 0 .nil (.t 164)),
 o1 7 (.lit [.b] [.bool true])])
 .ret))
 .skip))
 (.rg [o1 165 (.same 14),
 oc 166 10,
 o1 167 (.same 165),
 o1 168 (.idx (.t 167)),
 o4 1 [0,101] (.store 0 [(1,4)] 2 (.t 168) (.t 166))])))))))
 (.rg [o1 169 (.data (.bin .add) [.t 95,kD 1]),
 oc 95 169]))))))))
 (.seq (.rg [o1 170 (.build [.i .i64,.i .i64] []),
 o4 1 [6] (.store 6 [] 0 .nil (.t 170)),
 o1 7 (.lit [.b] [.bool false])])
 .ret))))))))
def s_iWeb_look:Sig:=⟨[.mp Ct1,.rd true [.d,.d],.rd false [.d]],(.tup [(true,2),(false,1)] [.d,.d,.d])⟩
def E_iWeb_look:TEnv:=envOf [(44,p_ilabelsAt),(79,p_isizes)]
def f_iWeb_look (n:Nat):(Int × List (Int × Int × Int × Bool)) × (Int × Int) × Int->Option ((Int × Int × Bool) × Int × List (Int × Int × Int × Bool)):=runFn n E_iWeb_look c_iWeb_look [Ty2,[.i .i64,.i .i64],[.i .i64]] [.i .i64,.i .i64,.b] Ty2 [6,7] (.mp 0)
def g_iWeb_look:=f_iWeb_look BIG
def p_iWeb_look:TSp:=⟨s_iWeb_look,[Ty2,[.i .i64,.i .i64],[.i .i64]],[.i .i64,.i .i64,.b],Ty2,Ou.j (.mp 0),g_iWeb_look⟩
theorem k_iWeb_look:chkW PG E_iWeb_look 40 s_iWeb_look (c_iWeb_look.ht 171) (.mp 0)=some (c_iWeb_look.wc E_iWeb_look,[6,7]):=by kernel_rfl
theorem ok_iWeb_look:p_iWeb_look.Ok PG 40:=mkOk (env_cons ok_ilabelsAt (env_cons ok_isizes (env_nil PG))) k_iWeb_look (by kernel_rfl)
theorem e_iWeb_look (n) (a0) (a1) (a2):f_iWeb_look n (a0,a1,a2) =
 Option.bind (g_ilabelsAt (a0,a2)) fun r0=>
 bnd r0.1.length a1.1 fun n1=>
 Option.bind r0.1[n1]? fun y2=>
 Option.bind (bnd r0.1.length a1.2 fun n3=>
  Option.bind r0.1[n3]? fun y4=>
  Option.bind (g_isizes (r0.1,y4)) fun r5=>
  bnd r0.1.length a1.1 fun n6=>
  Option.bind r0.1[n6]? fun y7=>
  Option.bind (g_isizes (r0.1,y7)) fun r8=>
  bif decide (r5.1<r8.1) then
   bnd r0.1.length a1.2 fun n9=>
   Option.bind r0.1[n9]? fun y10=>
   some y10
  else some y2:Option (Int)) fun x11=>
 Option.bind (loopT n (X:=(Int × List (Int × Int × Int × Bool)) × Int) (B:=(Int × List (Int × Int × Int × Bool))) (fun self13 x12=>
  bif decide (x12.2<(a0.2.length:Int)) then
   Option.bind (bnd x12.1.2.length x12.2 fun n14=>
    Option.bind (Option.bind x12.1.2[n14]? fun y15=>
     bif y15.2.2.2 then
      Option.bind x12.1.2[n14]? fun y16=>
      bif decide (y16.2.2.1=a2) then
       Option.bind x12.1.2[n14]? fun y17=>
       bnd r0.1.length y17.1 fun n18=>
       Option.bind r0.1[n18]? fun y19=>
       some (decide (y19=x11))
      else some false
     else some false:Option (Bool)) fun x20=>
    bif x20 then
     Option.bind x12.1.2[n14]? fun y21=>
     some (x12.1.1,x12.1.2.set n14 (y21.1,y21.2.1,(if (4:Int)<(IntKind.wrap .i64 (a2+(1:Int))) then (4:Int) else (IntKind.wrap .i64 (a2+(1:Int)))),y21.2.2.2))
    else some x12.1:Option ((Int × List (Int × Int × Int × Bool)))) fun x22=>
   self13 (x22,IntKind.wrap .i64 (x12.2+(1:Int)))
  else some x12.1) (a0,(0:Int)):Option ((Int × List (Int × Int × Int × Bool)))) fun x23=>
 Option.bind (loopT n (X:=(Int × List (Int × Int × Int × Bool)) × (Int × Int) × Int) (B:=((Int × List (Int × Int × Int × Bool)) × (Int × Int)) ⊕ ((Int × Int) × Bool × (Int × List (Int × Int × Int × Bool)))) (fun self25 x24=>
  bif decide (x24.2.2<(x23.2.length:Int)) then
   Option.bind (bnd x24.1.2.length x24.2.2 fun n26=>
    Option.bind (Option.bind x24.1.2[n26]? fun y27=>
     bif y27.2.2.2 then
      some true
     else Option.bind x24.1.2[n26]? fun y28=>
     bif !decide (y28.2.2.1=a2) then
      some true
     else Option.bind x24.1.2[n26]? fun y29=>
     bnd r0.1.length y29.1 fun n30=>
     Option.bind r0.1[n30]? fun y31=>
     bif !decide (y31=x11) then
      Option.bind x24.1.2[n26]? fun y32=>
      bnd r0.1.length y32.2.1 fun n33=>
      Option.bind r0.1[n33]? fun y34=>
      some (!decide (y34=x11))
     else some false:Option (Bool)) fun x35=>
    bif x35 then
     some (Sum.inl (x24.1,x24.2.1))
    else Option.bind x24.1.2[n26]? fun y36=>
    bnd r0.1.length y36.1 fun n37=>
    Option.bind r0.1[n37]? fun y38=>
    Option.bind x24.1.2[n26]? fun y39=>
    bnd r0.1.length y39.2.1 fun n40=>
    Option.bind r0.1[n40]? fun y41=>
    bif !decide (y38=y41) then
     Option.bind x24.1.2[n26]? fun y42=>
     Option.bind (x24.1.2.set n26 (y42.1,y42.2.1,y42.2.2.1,true))[n26]? fun y43=>
     Option.bind (x24.1.2.set n26 (y42.1,y42.2.1,y42.2.2.1,true))[n26]? fun y44=>
     some (Sum.inr ((y43.1,y44.2.1),true,(x24.1.1,x24.1.2.set n26 (y42.1,y42.2.1,y42.2.2.1,true))))
    else Option.bind x24.1.2[n26]? fun y45=>
    some (Sum.inl ((x24.1.1,x24.1.2.set n26 (y45.1,y45.2.1,(if (4:Int)<(IntKind.wrap .i64 (a2+(1:Int))) then (4:Int) else (IntKind.wrap .i64 (a2+(1:Int)))),y45.2.2.2)),x24.2.1)):Option (((Int × List (Int × Int × Int × Bool)) × (Int × Int)) ⊕ ((Int × Int) × Bool × (Int × List (Int × Int × Int × Bool))))) fun y=>match y with
   | .inl x46=>
    self25 (x46.1,x46.2,IntKind.wrap .i64 (x24.2.2+(1:Int)))
   | .inr x46=>
    some (Sum.inr (x46.1,x46.2.1,x46.2.2))
  else some (Sum.inl (x24.1,x24.2.1))) (x23,((0:Int),(0:Int)),(0:Int)):Option (((Int × List (Int × Int × Int × Bool)) × (Int × Int)) ⊕ ((Int × Int) × Bool × (Int × List (Int × Int × Int × Bool))))) fun y=>match y with
 | .inl x47=>
  some (((0:Int),(0:Int),false),x47.1)
 | .inr x47=>
  some ((x47.1.1,x47.1.2,x47.2.1),x47.2.2):=by kernel_rfl
def c_iWebTake:TC:=
 (.seq (.rg [o1 2 (.a (.t 0)),
 o1 3 (.a (.t 1)),
 o5 (.a (.c Ty2 [kV 0,.slice none 0 0])) 4 1000000005,
 o5 (.a (.c [.i .i64,.i .i64] [kV 0,kV 0])) 5 1000000006,
 o1 6 (.lit [.b] [.bool false]),
 o1 7 (.lit [.b] [.bool false])])
 (.seq (.seq (.join [⟨24,[.b],false⟩] 33521664 none (.rg [o1 15 (.load 2 [] 0 .nil 2 false),
 o3 16 14 [.t 15],
 o1 17 (.data .not [.t 16]),
 oc 18 17,
 o2 19 (.load 2 [] 0 .nil 2 false) 3 false,
 ⟨false,[],[],.call 1 8 [.t 19] .no,[20],(some 20),some (3,false)⟩,
 o2 21 (.load 3 [] 0 .nil 2 false) 3 false,
 ⟨false,[],[],.call 1 39 [.t 20,.t 21] .no,[22],(some 22),some (3,false)⟩,
 o2 23 (.data .not [.t 22]) 3 false,
 o7 18 (.c (.bool true)) (.t 23) 24]))
 (.cond (.t 24)
 (.seq (.rg [o1 25 (.build Ty2 []),
 o1 26 (.build [.i .i64,.i .i64] []),
 o4 2 [4,25] (.store 4 [] 0 .nil (.t 25)),
 o4 1 [5] (.store 5 [] 0 .nil (.t 26)),
 o1 6 (.lit [.b] [.bool false]),
 o1 7 (.lit [.b] [.bool false])])
 .ret)
 .skip))
 (.seq (.rg [oi 27,
 o1 28 (.load 2 [] 0 (.t 27) 1 false),
 o1 29 (.build Ty2 [(0,.t 28)]),
 o5 (.a (.c Ty2 [kV 0,.slice none 0 0])) 8 1000000009,
 o4 2 [8,29] (.store 8 [] 0 .nil (.t 29))])
 (.seq (.rg [o5 (.a (.c Ty7 [kV 0,kV 0,kV 0,.bool false])) 9 1000000010])
 (.seq (.join [⟨9,Ty7,false⟩,⟨8,Ty2,false⟩] 144115187002116864 none (.seq (.rg [oi 30,
 o1 31 (.load 2 [] 1 (.t 30) 1 false),
 o1 32 (.len 31),
 o1 33 (kL 0)])
 (.block 0 (.loop [⟨9,Ty7,false⟩,⟨8,Ty2,false⟩,⟨33,[.i .i64],false⟩] 144115179485924096
 (.seq (.rg [o1 34 (.data (.bin .lss) [.t 33,.t 32])])
 (.seq (.cond (.t 34)
 .skip
 (.exit 0))
 (.seq (.join [⟨9,Ty7,false⟩,⟨8,Ty2,false⟩] 72057559678192384 none (.block 1 (.seq (.rg [o1 35 (.index 31 (.t 33)),
 o1 36 (.load 31 [(0,4)] 0 (.t 35) 4 false),
 o5 (.a (.c Ty7 [kV 0,kV 0,kV 0,.bool false])) 11 1000000012,
 o4 1 [11] (.store 11 [] 0 .nil (.t 36))])
 (.seq (.seq (.join [⟨48,[.b],false⟩] 562812514467840 none (.rg [oi 37,
 o1 38 (.load 11 [] 0 (.t 37) 1 false),
 oi 39,
 o1 40 (.load 3 [] 0 (.t 39) 1 false),
 o1 41 (.data (.bin .eql) [.t 38,.t 40]),
 oc 42 41,
 o2 43 (.idx .nil) 5 true,
 o2 44 (.load 11 [] 1 (.t 43) 1 false) 5 true,
 o2 45 (.idx .nil) 5 true,
 o2 46 (.load 3 [] 1 (.t 45) 1 false) 5 true,
 o2 47 (.data (.bin .eql) [.t 44,.t 46]) 5 true,
 o7 42 (.t 47) (.c (.bool false)) 48]))
 (.cond (.t 48)
 (.seq (.rg [o1 49 (.load 11 [] 0 .nil 4 false),
 o4 1 [9] (.store 9 [] 0 .nil (.t 49))])
 (.exit 1))
 .skip))
 (.rg [oi 50,
 o1 51 (.load 8 [] 1 (.t 50) 1 true),
 o1 52 (.load 11 [] 0 .nil 4 false),
 o1 53 (.sli Ty7 [.t 52]),
 ⟨false,[51],[],.det 2 (.app (some 51) 53),[54,51,51,8],(some 54),none⟩,
 oi 55,
 o4 2 [8,54,51] (.store 8 [] 1 (.t 55) (.t 54))])))))
 (.rg [o1 56 (.data (.bin .add) [.t 33,kD 1]),
 oc 33 56]))))))))
 (.seq (.join [⟨8,Ty2,false⟩,⟨4,Ty2,false⟩,⟨5,[.i .i64,.i .i64],false⟩] 75557719610726247592432 (some [⟨4,Ty2,false⟩,⟨5,[.i .i64,.i .i64],false⟩,⟨6,[.b],false⟩,⟨7,[.b],false⟩]) (.seq (.rg [oi 57,
 o1 58 (.load 9 [] 2 (.t 57) 1 false),
 oc 12 58])
 (.block 2 (.loop [⟨8,Ty2,false⟩,⟨4,Ty2,false⟩,⟨5,[.i .i64,.i .i64],false⟩,⟨12,[.i .i64],false⟩] 75557287265162020024816
 (.seq (.seq (.join [⟨64,[.b],false⟩] 36317027395115679744 none (.rg [oc 59 12,
 o1 60 (.data (.bin .geq) [.t 59,kD 0]),
 oc 61 60,
 o2 62 (.idx .nil) 2 true,
 o2 63 (.load 9 [] 3 (.t 62) 1 false) 2 true,
 o7 61 (.t 63) (.c (.bool false)) 64]))
 (.cond (.t 64)
 .skip
 (.exit 2)))
 (.seq (.block 3 (.seq (.rg [o1 68 (.load 3 [] 0 .nil 2 false),
 oc 69 12,
 ⟨false,[],[],.call 2 40 [.t 8,.t 68,.t 69] (.mp 0),[70,8],(some 70),none⟩,
 o5 (.copy 70) 67 70,
 o1 71 (.ext 67 0 2),
 o1 72 (.ext 67 2 1),
 o5 (.a (.c [.i .i64,.i .i64] [kV 0,kV 0])) 13 1000000014,
 o4 1 [13] (.store 13 [] 0 .nil (.t 71)),
 oc 14 72])
 (.seq (.rg [oc 73 14])
 (.cond (.t 73)
 (.seq (.rg [o1 74 (.load 8 [] 0 .nil 2 true),
 ⟨false,[],[4,8],.det 1 (.load 13 [] 0 .nil 2 false),[75],(some 75),none⟩,
 ⟨false,[74],[],.det 2 (.store 4 [] 0 .nil (.t 74)),[4,74,74,8],none,none⟩,
 o4 1 [5] (.store 5 [] 0 .nil (.t 75)),
 o1 6 (.lit [.b] [.bool true]),
 o1 7 (.lit [.b] [.bool true])])
 .ret)
 .skip))))
 (.rg [oc 65 12,
 o1 66 (.data (.bin .sub) [.t 65,kD 1]),
 oc 12 66])))))))
 (.seq (.rg [o1 76 (.load 8 [] 0 .nil 2 true),
 o1 77 (.build [.i .i64,.i .i64] []),
 ⟨false,[76],[],.det 2 (.store 4 [] 0 .nil (.t 76)),[4,76,76,8],none,none⟩,
 o4 1 [5] (.store 5 [] 0 .nil (.t 77)),
 o1 6 (.lit [.b] [.bool false]),
 o1 7 (.lit [.b] [.bool true])])
 .ret)))))))
def s_iWebTake:Sig:=⟨[.rd true Ct1,.rd true [.d,.d]],(.tup [(true,2),(true,2),(false,1),(false,1)] [.d,.sl (.own none) [.d,.d,.d,.d],.d,.d,.d,.d])⟩
def E_iWebTake:TEnv:=envOf [(14,p_iWebOk),(8,p_iGraphOf),(39,p_iHasEdge),(40,p_iWeb_look)]
def f_iWebTake (n:Nat):(Int × List (Int × Int × Int × Bool)) × (Int × Int)->Option ((Int × List (Int × Int × Int × Bool) × Int × Int × Bool × Bool) × Unit):=runFn n E_iWebTake c_iWebTake [Ty2,[.i .i64,.i .i64]] Ty0 [] [4,5,6,7] .no
def g_iWebTake:=f_iWebTake BIG
def p_iWebTake:TSp:=⟨s_iWebTake,[Ty2,[.i .i64,.i .i64]],Ty0,[],Ou.j .no,g_iWebTake⟩
theorem k_iWebTake:chkW PG E_iWebTake 10 s_iWebTake (c_iWebTake.ht 78) .no=some (c_iWebTake.wc E_iWebTake,[4,5,6,7]):=by kernel_rfl
theorem ok_iWebTake:p_iWebTake.Ok PG 10:=mkOk (env_cons ok_iWebOk (env_cons ok_iGraphOf (env_cons ok_iHasEdge (env_cons ok_iWeb_look (env_nil PG))))) k_iWebTake (by kernel_rfl)
theorem e_iWebTake (n) (a0) (a1):f_iWebTake n (a0,a1) =
 Option.bind (Option.bind (g_iWebOk a0) fun r0=>
  bif !r0.1 then
   some true
  else Option.bind (g_iGraphOf a0) fun r1=>
  Option.bind (g_iHasEdge (r1.1,a1)) fun r2=>
  some !r2.1:Option (Bool)) fun x3=>
 bif x3 then
  some (((0:Int),[],(0:Int),(0:Int),false,false),())
 else Option.bind (loopT n (X:=(Int × Int × Int × Bool) × (Int × List (Int × Int × Int × Bool)) × Int) (B:=(Int × Int × Int × Bool) × (Int × List (Int × Int × Int × Bool))) (fun self5 x4=>
  bif decide (x4.2.2<(a0.2.length:Int)) then
   Option.bind (bnd a0.2.length x4.2.2 fun n6=>
    Option.bind a0.2[n6]? fun y7=>
    Option.bind (bif decide (y7.1=a1.1) then
     some (decide (y7.2.1=a1.2))
     else some false:Option (Bool)) fun x8=>
    bif x8 then
     some (y7,x4.2.1)
    else bif decide (x4.2.1.2.length+[y7].length<=4294967296) then
     some (x4.1,(x4.2.1.1,x4.2.1.2++[y7]))
    else none:Option ((Int × Int × Int × Bool) × (Int × List (Int × Int × Int × Bool)))) fun x9=>
   self5 (x9.1,x9.2,IntKind.wrap .i64 (x4.2.2+(1:Int)))
  else some (x4.1,x4.2.1)) (((0:Int),(0:Int),(0:Int),false),(a0.1,[]),(0:Int)):Option ((Int × Int × Int × Bool) × (Int × List (Int × Int × Int × Bool)))) fun x10=>
 Option.bind (loopT n (X:=(Int × List (Int × Int × Int × Bool)) × (Int × List (Int × Int × Int × Bool)) × (Int × Int) × Int) (B:=((Int × List (Int × Int × Int × Bool)) × (Int × List (Int × Int × Int × Bool)) × (Int × Int)) ⊕ ((Int × List (Int × Int × Int × Bool)) × (Int × Int) × Bool × Bool)) (fun self12 x11=>
  Option.bind (bif decide ((0:Int)<=x11.2.2.2) then
   some x10.1.2.2.2
   else some false:Option (Bool)) fun x13=>
  bif x13 then
   Option.bind (g_iWeb_look (x11.1,a1,x11.2.2.2)) fun r14=>
   bif r14.1.2.2 then
    some (Sum.inr (r14.2,(r14.1.1,r14.1.2.1),true,true))
   else self12 (r14.2,x11.2.1,x11.2.2.1,IntKind.wrap .i64 (x11.2.2.2-(1:Int)))
  else some (Sum.inl (x11.1,x11.2.1,x11.2.2.1))) (x10.2,((0:Int),[]),((0:Int),(0:Int)),x10.1.2.2.1):Option (((Int × List (Int × Int × Int × Bool)) × (Int × List (Int × Int × Int × Bool)) × (Int × Int)) ⊕ ((Int × List (Int × Int × Int × Bool)) × (Int × Int) × Bool × Bool))) fun y=>match y with
 | .inl x15=>
  some ((x15.1.1,x15.1.2,(0:Int),(0:Int),false,true),())
 | .inr x15=>
  some ((x15.1.1,x15.1.2,x15.2.1.1,x15.2.1.2,x15.2.2),()):=by kernel_rfl
def c_sl05Without:TC:=
 (.seq (.rg [o1 3 (.a (.t 1)),
 o1 4 (.lit [.sl [.i .i64,.i .i64]] [.slice none 0 0])])
 (.seq (.rg [o1 7 (.sli [.i .i64,.i .i64] []),
 o5 (.copy 7) 5 7])
 (.seq (.join [⟨5,[.sl [.i .i64,.i .i64]],false⟩] 134217568 none (.seq (.rg [o1 6 (kL 0)])
 (.block 0 (.loop [⟨5,[.sl [.i .i64,.i .i64]],false⟩,⟨6,[.i .i64],false⟩] 134217568
 (.seq (.seq (.rg [oc 8 6,
 oc 9 0,
 o1 10 (.len 9),
 o1 11 (.data (.bin .lss) [.t 8,.t 10])])
 (.cond (.t 11)
 .skip
 (.exit 0)))
 (.seq (.join [⟨5,[.sl [.i .i64,.i .i64]],false⟩] 134201376 none (.block 1 (.seq (.rg [oc 14 0,
 oc 15 6,
 o1 16 (.index 14 (.t 15)),
 o1 17 (.load 14 [(0,2)] 0 (.t 16) 2 false),
 o1 18 (.load 3 [] 0 .nil 2 false),
 o1 19 (.eqA [.i,.i] (.t 17) (.t 18) true)])
 (.cond (.t 19)
 (.rg [o5 (.copy 5) 20 5,
 oc 21 0,
 oc 22 6,
 o1 23 (.index 21 (.t 22)),
 o1 24 (.load 21 [(0,2)] 0 (.t 23) 2 false),
 o1 25 (.sli [.i .i64,.i .i64] [.t 24]),
 o5 (.app (some 20) 25) 26 20,
 o5 (.copy 26) 5 26])
 .skip))))
 (.rg [oc 12 6,
 o1 13 (.data (.bin .add) [.t 12,kD 1]),
 oc 6 13])))))))
 (.seq (.rg [o5 (.copy 5) 27 5,
 o5 (.copy 27) 4 27])
 .ret))))
def s_sl05Without:Sig:=⟨[.rd false Ct4,.rd true [.d,.d]],(.one false Ct4)⟩
def E_sl05Without:TEnv:=envOf []
def f_sl05Without (n:Nat):(List (Int × Int)) × (Int × Int)->Option ((List (Int × Int)) × Unit):=runFn n E_sl05Without c_sl05Without [[.sl [.i .i64,.i .i64]],[.i .i64,.i .i64]] [.sl [.i .i64,.i .i64]] [] [4] .no
def g_sl05Without:=f_sl05Without BIG
def p_sl05Without:TSp:=⟨s_sl05Without,[[.sl [.i .i64,.i .i64]],[.i .i64,.i .i64]],[.sl [.i .i64,.i .i64]],[],Ou.j .no,g_sl05Without⟩
theorem k_sl05Without:chkW PG E_sl05Without 42 s_sl05Without (c_sl05Without.ht 28) .no=some (c_sl05Without.wc E_sl05Without,[4]):=by kernel_rfl
theorem ok_sl05Without:p_sl05Without.Ok PG 42:=mkOk (env_nil PG) k_sl05Without (by kernel_rfl)
theorem e_sl05Without (n) (a0) (a1):f_sl05Without n (a0,a1) =
 Option.bind (loopT n (X:=(List (Int × Int)) × Int) (B:=(List (Int × Int))) (fun self1 x0=>
 bif decide (x0.2<(a0.length:Int)) then
 Option.bind (bnd a0.length x0.2 fun n2=>
 Option.bind a0[n2]? fun y3=>
 bif !(decide (y3.1=a1.1)&&(decide (y3.2=a1.2)&&true)) then
 bnd a0.length x0.2 fun n4=>
 Option.bind a0[n4]? fun y5=>
 bif decide (x0.1.length+[y5].length<=4294967296) then
 some (x0.1++[y5])
 else none
 else some x0.1:Option ((List (Int × Int)))) fun x6=>
 self1 (x6,IntKind.wrap .i64 (x0.2+(1:Int)))
 else some x0.1) ([],(0:Int)):Option ((List (Int × Int)))) fun x7=>
 some (x7,()):=by kernel_rfl
def c_sTakeEdge:TC:=
 (.seq (.rg [o1 2 (.a (.t 0)),
 o1 3 (.a (.t 1)),
 o5 (.a (.c Ty5 [kV 0,.slice none 0 0])) 4 1000000005,
 o1 5 (.lit [.b] [.bool false])])
 (.seq (.seq (.join [⟨14,[.b],false⟩] 32704 none (.rg [o1 6 (.load 2 [] 0 .nil 2 false),
 o3 7 41 [.t 6],
 o1 8 (.data .not [.t 7]),
 oc 9 8,
 o2 10 (.load 2 [] 0 .nil 2 false) 3 false,
 o2 11 (.load 3 [] 0 .nil 2 false) 3 false,
 ⟨false,[],[],.call 1 9 [.t 10,.t 11] .no,[12],(some 12),some (3,false)⟩,
 o2 13 (.data .not [.t 12]) 3 false,
 o7 9 (.c (.bool true)) (.t 13) 14]))
 (.cond (.t 14)
 (.seq (.rg [o1 15 (.build Ty5 []),
 o4 2 [4,15] (.store 4 [] 0 .nil (.t 15)),
 o1 5 (.lit [.b] [.bool false])])
 .ret)
 .skip))
 (.seq (.rg [oi 16,
 o1 17 (.load 2 [] 0 (.t 16) 1 false),
 oi 18,
 o1 19 (.load 2 [] 1 (.t 18) 1 false),
 o1 20 (.load 3 [] 0 .nil 2 false),
 o3 21 42 [.t 19,.t 20],
 o5 (.build Ty5 [(0,.t 17),(1,.t 21)]) 22 21,
 o4 2 [4,22] (.store 4 [] 0 .nil (.t 22)),
 o1 5 (.lit [.b] [.bool true])])
 .ret)))
def s_sTakeEdge:Sig:=⟨[.rd true Ct3,.rd true [.d,.d]],(.tup [(true,2),(false,1)] Ct2)⟩
def E_sTakeEdge:TEnv:=envOf [(41,p_sGraphOk),(9,p_sHasEdge),(42,p_sl05Without)]
def f_sTakeEdge (n:Nat):(Int × List (Int × Int)) × (Int × Int)->Option ((Int × List (Int × Int) × Bool) × Unit):=runFn n E_sTakeEdge c_sTakeEdge [Ty5,[.i .i64,.i .i64]] Ty4 [] [4,5] .no
def g_sTakeEdge:=f_sTakeEdge BIG
def p_sTakeEdge:TSp:=⟨s_sTakeEdge,[Ty5,[.i .i64,.i .i64]],Ty4,[],Ou.j .no,g_sTakeEdge⟩
theorem k_sTakeEdge:chkW PG E_sTakeEdge 11 s_sTakeEdge (c_sTakeEdge.ht 23) .no=some (c_sTakeEdge.wc E_sTakeEdge,[4,5]):=by kernel_rfl
theorem ok_sTakeEdge:p_sTakeEdge.Ok PG 11:=mkOk (env_cons ok_sGraphOk (env_cons ok_sHasEdge (env_cons ok_sl05Without (env_nil PG)))) k_sTakeEdge (by kernel_rfl)
theorem e_sTakeEdge (n) (a0) (a1):f_sTakeEdge n (a0,a1) =
 Option.bind (Option.bind (g_sGraphOk a0) fun r0=>
 bif !r0.1 then
 some true
 else Option.bind (g_sHasEdge (a0,a1)) fun r1=>
 some !r1.1:Option (Bool)) fun x2=>
 bif x2 then
 some (((0:Int),[],false),())
 else Option.bind (g_sl05Without (a0.2,a1)) fun r3=>
 some ((a0.1,r3.1,true),()):=by kernel_rfl
def c_iwithEdge:TC:=
 (.seq (.rg [o1 3 (.a (.t 1)),
 o1 4 (.lit [.sl [.i .i64,.i .i64]] [.slice none 0 0])])
 (.seq (.rg [o1 5 (kL 0)])
 (.seq (.join [⟨5,[.i .i64],false⟩] 1048544 none (.block 0 (.loop [⟨5,[.i .i64],false⟩] 1048544
 (.seq (.seq (.join [⟨17,[.b],false⟩] 262080 none (.rg [oc 6 5,
 oc 7 0,
 o1 8 (.len 7),
 o1 9 (.data (.bin .lss) [.t 6,.t 8]),
 oc 10 9,
 o2 11 (.copy 0) 4 true,
 o2 12 (.copy 5) 4 true,
 o2 13 (.index 11 (.t 12)) 4 true,
 o2 14 (.load 11 [(0,2)] 0 (.t 13) 2 false) 4 true,
 o2 15 (.load 3 [] 0 .nil 2 false) 4 true,
 ⟨false,[],[],.call 1 45 [.t 14,.t 15] .no,[16],(some 16),some (4,true)⟩,
 o7 10 (.t 16) (.c (.bool false)) 17]))
 (.cond (.t 17)
 .skip
 (.exit 0)))
 (.block 1 (.rg [oc 18 5,
 o1 19 (.data (.bin .add) [.t 18,kD 1]),
 oc 5 19]))))))
 (.seq (.rg [oc 20 0,
 oc 21 5,
 oc 27 0,
 oc 28 5,
 o1 22 (.res 20 none (some (.t 21))),
 o1 23 (.app none 22),
 o1 24 (.load 3 [] 0 .nil 2 false),
 o1 25 (.sli [.i .i64,.i .i64] [.t 24]),
 o5 (.app (some 23) 25) 26 23,
 o1 29 (.res 27 (some (.t 28)) none),
 o5 (.app (some 26) 29) 30 26,
 o5 (.copy 30) 4 30])
 .ret))))
def s_iwithEdge:Sig:=⟨[.rd false Ct4,.rd true [.d,.d]],(.one false Ct4)⟩
def E_iwithEdge:TEnv:=envOf [(45,p_iahead)]
def f_iwithEdge (n:Nat):(List (Int × Int)) × (Int × Int)->Option ((List (Int × Int)) × Unit):=runFn n E_iwithEdge c_iwithEdge [[.sl [.i .i64,.i .i64]],[.i .i64,.i .i64]] [.sl [.i .i64,.i .i64]] [] [4] .no
def g_iwithEdge:=f_iwithEdge BIG
def p_iwithEdge:TSp:=⟨s_iwithEdge,[[.sl [.i .i64,.i .i64]],[.i .i64,.i .i64]],[.sl [.i .i64,.i .i64]],[],Ou.j .no,g_iwithEdge⟩
theorem k_iwithEdge:chkW PG E_iwithEdge 82 s_iwithEdge (c_iwithEdge.ht 31) .no=some (c_iwithEdge.wc E_iwithEdge,[4]):=by kernel_rfl
theorem ok_iwithEdge:p_iwithEdge.Ok PG 82:=mkOk (env_cons ok_iahead (env_nil PG)) k_iwithEdge (by kernel_rfl)
theorem e_iwithEdge (n) (a0) (a1):f_iwithEdge n (a0,a1) =
 Option.bind (loopT n (X:=Int) (B:=Int) (fun self1 x0=>
 Option.bind (bif decide (x0<(a0.length:Int)) then
 bnd a0.length x0 fun n2=>
 Option.bind a0[n2]? fun y3=>
 Option.bind (g_iahead (y3,a1)) fun r4=>
 some r4.1
 else some false:Option (Bool)) fun x5=>
 bif x5 then
 self1 (IntKind.wrap .i64 (x0+(1:Int)))
 else some x0) (0:Int):Option (Int)) fun x6=>
 bif decide (0<=x6) then
 bif decide (0<=(Int.toNat x6)/\(Int.toNat x6)<=a0.length) then
 bif decide ((List.take ((Int.toNat x6)-0) (List.drop 0 a0)).length<=4294967296) then
 bif decide ((List.take ((Int.toNat x6)-0) (List.drop 0 a0)).length+[a1].length<=4294967296) then
 bif decide (0<=x6) then
 bif decide ((Int.toNat x6)<=a0.length/\a0.length<=a0.length) then
 bif decide (((List.take ((Int.toNat x6)-0) (List.drop 0 a0))++[a1]).length+(List.take (a0.length-(Int.toNat x6)) (List.drop (Int.toNat x6) a0)).length<=4294967296) then
 some (((List.take ((Int.toNat x6)-0) (List.drop 0 a0))++[a1])++(List.take (a0.length-(Int.toNat x6)) (List.drop (Int.toNat x6) a0)),())
 else none
 else none
 else none
 else none
 else none
 else none
 else none:=by kernel_rfl
def c_iAddEdge:TC:=
 (.seq (.rg [o1 2 (.a (.t 0)),
 o1 3 (.a (.t 1)),
 o5 (.a (.c Ty5 [kV 0,.slice none 0 0])) 4 1000000005,
 o1 5 (.lit [.b] [.bool false])])
 (.seq (.seq (.join [⟨20,[.b],false⟩] 2097088 none (.rg [o1 6 (.load 2 [] 0 .nil 2 false),
 o3 7 49 [.t 6],
 o1 8 (.data .not [.t 7]),
 oc 9 8,
 o2 10 (.idx .nil) 3 false,
 o2 11 (.load 2 [] 0 (.t 10) 1 false) 3 false,
 o2 12 (.load 3 [] 0 .nil 2 false) 3 false,
 ⟨false,[],[],.call 1 81 [.t 11,.t 12] .no,[13],(some 13),some (3,false)⟩,
 o2 14 (.data .not [.t 13]) 3 false,
 o7 9 (.c (.bool true)) (.t 14) 15,
 oc 16 15,
 o2 17 (.load 2 [] 0 .nil 2 false) 10 false,
 o2 18 (.load 3 [] 0 .nil 2 false) 10 false,
 ⟨false,[],[],.call 1 39 [.t 17,.t 18] .no,[19],(some 19),some (10,false)⟩,
 o7 16 (.c (.bool true)) (.t 19) 20]))
 (.cond (.t 20)
 (.seq (.rg [o1 21 (.build Ty5 []),
 o4 2 [4,21] (.store 4 [] 0 .nil (.t 21)),
 o1 5 (.lit [.b] [.bool false])])
 .ret)
 .skip))
 (.seq (.rg [oi 22,
 o1 23 (.load 2 [] 0 (.t 22) 1 false),
 oi 24,
 o1 25 (.load 2 [] 1 (.t 24) 1 false),
 o1 26 (.load 3 [] 0 .nil 2 false),
 o3 27 82 [.t 25,.t 26],
 o5 (.build Ty5 [(0,.t 23),(1,.t 27)]) 28 27,
 o4 2 [4,28] (.store 4 [] 0 .nil (.t 28)),
 o1 5 (.lit [.b] [.bool true])])
 .ret)))
def s_iAddEdge:Sig:=⟨[.rd true Ct3,.rd true [.d,.d]],(.tup [(true,2),(false,1)] Ct2)⟩
def E_iAddEdge:TEnv:=envOf [(49,p_iGraphOk),(81,p_iEdgeOk),(39,p_iHasEdge),(82,p_iwithEdge)]
def f_iAddEdge (n:Nat):(Int × List (Int × Int)) × (Int × Int)->Option ((Int × List (Int × Int) × Bool) × Unit):=runFn n E_iAddEdge c_iAddEdge [Ty5,[.i .i64,.i .i64]] Ty4 [] [4,5] .no
def g_iAddEdge:=f_iAddEdge BIG
def p_iAddEdge:TSp:=⟨s_iAddEdge,[Ty5,[.i .i64,.i .i64]],Ty4,[],Ou.j .no,g_iAddEdge⟩
theorem k_iAddEdge:chkW PG E_iAddEdge 43 s_iAddEdge (c_iAddEdge.ht 29) .no=some (c_iAddEdge.wc E_iAddEdge,[4,5]):=by kernel_rfl
theorem ok_iAddEdge:p_iAddEdge.Ok PG 43:=mkOk (env_cons ok_iGraphOk (env_cons ok_iEdgeOk (env_cons ok_iHasEdge (env_cons ok_iwithEdge (env_nil PG))))) k_iAddEdge (by kernel_rfl)
theorem e_iAddEdge (n) (a0) (a1):f_iAddEdge n (a0,a1) =
 Option.bind (Option.bind (g_iGraphOk a0) fun r0=>
 bif !r0.1 then
 some true
 else Option.bind (g_iEdgeOk (a0.1,a1)) fun r1=>
 bif !r1.1 then
 some true
 else Option.bind (g_iHasEdge (a0,a1)) fun r2=>
 some r2.1:Option (Bool)) fun x3=>
 bif x3 then
 some (((0:Int),[],false),())
 else Option.bind (g_iwithEdge (a0.2,a1)) fun r4=>
 some ((a0.1,r4.1,true),()):=by kernel_rfl
def c_icopyWeb:TC:=
 (.seq (.rg [o1 1 (.a (.t 0)),
 o5 (.a (.c Ty2 [kV 0,.slice none 0 0])) 2 1000000003])
 (.seq (.rg [oi 3,
 o1 4 (.load 1 [] 0 (.t 3) 1 false),
 oi 5,
 o1 6 (.load 1 [] 1 (.t 5) 1 false),
 o1 7 (.app none 6),
 o5 (.build Ty2 [(0,.t 4),(1,.t 7)]) 8 7,
 o4 2 [2,8] (.store 2 [] 0 .nil (.t 8))])
 .ret))
def s_icopyWeb:Sig:=⟨[.rd true Ct1],(.one true Ct1)⟩
def E_icopyWeb:TEnv:=envOf []
def f_icopyWeb (n:Nat):(Int × List (Int × Int × Int × Bool))->Option ((Int × List (Int × Int × Int × Bool)) × Unit):=runFn n E_icopyWeb c_icopyWeb [Ty2] Ty2 [] [2] .no
def g_icopyWeb:=f_icopyWeb BIG
def p_icopyWeb:TSp:=⟨s_icopyWeb,[Ty2],Ty2,[],Ou.j .no,g_icopyWeb⟩
theorem k_icopyWeb:chkW PG E_icopyWeb 46 s_icopyWeb (c_icopyWeb.ht 9) .no=some (c_icopyWeb.wc E_icopyWeb,[2]):=by kernel_rfl
theorem ok_icopyWeb:p_icopyWeb.Ok PG 46:=mkOk (env_nil PG) k_icopyWeb (by kernel_rfl)
theorem e_icopyWeb (n) (a0):f_icopyWeb n a0 =
 bif decide (a0.2.length<=4294967296) then
 some (a0,())
 else none:=by kernel_rfl
def c_iWebAdd:TC:=
 (.seq (.rg [o1 2 (.a (.t 0)),
 o1 3 (.a (.t 1)),
 o5 (.a (.c Ty2 [kV 0,.slice none 0 0])) 4 1000000005,
 o1 5 (.lit [.b] [.bool false])])
 (.seq (.seq (.rg [⟨false,[],[1000000007],.det 1 (.load 2 [] 0 .nil 2 false),[12],(some 12),none⟩,
 ⟨false,[],[1000000007],.call 1 8 [.t 12] .no,[13],(some 13),none⟩,
 ⟨false,[],[1000000007],.det 1 (.load 3 [] 0 .nil 2 false),[14],(some 14),none⟩,
 ⟨false,[],[1000000007],.call 1 43 [.t 13,.t 14] .no,[15],(some 15),none⟩,
 ⟨false,[],[1000000007],.det 2 (.copy 15),[11,15],(some 11),none⟩,
 ⟨false,[],[1000000007],.det 2 (.ext 11 0 2),[16,11],(some 16),none⟩,
 ⟨false,[],[1000000007],.det 1 (.ext 11 2 1),[17],(some 17),none⟩,
 o5 (.a (.c Ty5 [kV 0,.slice none 0 0])) 6 1000000007,
 o4 2 [6,16] (.store 6 [] 0 .nil (.t 16)),
 oc 7 17])
 (.seq (.join [⟨24,[.b],false⟩] 33292288 none (.rg [o1 18 (.load 2 [] 0 .nil 2 false),
 o3 19 14 [.t 18],
 o1 20 (.data .not [.t 19]),
 oc 21 20,
 o2 22 (.copy 7) 3 false,
 o2 23 (.data .not [.t 22]) 3 false,
 o7 21 (.c (.bool true)) (.t 23) 24]))
 (.cond (.t 24)
 (.seq (.rg [o1 25 (.build Ty2 []),
 o4 2 [4,25] (.store 4 [] 0 .nil (.t 25)),
 o1 5 (.lit [.b] [.bool false])])
 .ret)
 .skip)))
 (.seq (.rg [o1 26 (.load 2 [] 0 .nil 2 false),
 o3 27 44 [.t 26,kO 0],
 o5 (.copy 27) 8 27])
 (.seq (.rg [o1 9 (kL 0)])
 (.seq (.join [⟨9,[.i .i64],false⟩] 4503599358935552 none (.block 0 (.loop [⟨9,[.i .i64],false⟩] 4503599358935552
 (.seq (.seq (.join [⟨49,[.b],false⟩] 1125899638407168 none (.rg [oc 28 9,
 oi 29,
 o1 30 (.load 2 [] 1 (.t 29) 1 false),
 o1 31 (.len 30),
 o1 32 (.data (.bin .lss) [.t 28,.t 31]),
 oc 33 32,
 o2 34 (.idx .nil) 5 true,
 o2 35 (.load 2 [] 1 (.t 34) 1 false) 5 true,
 o2 36 (.copy 9) 5 true,
 o2 37 (.index 35 (.t 36)) 5 true,
 o2 38 (.idx (.t 37)) 5 true,
 o2 39 (.load 35 [(0,4)] 0 (.t 38) 1 false) 5 true,
 o2 40 (.idx .nil) 5 true,
 o2 41 (.load 2 [] 1 (.t 40) 1 false) 5 true,
 o2 42 (.copy 9) 5 true,
 o2 43 (.index 41 (.t 42)) 5 true,
 o2 44 (.idx (.t 43)) 5 true,
 o2 45 (.load 41 [(0,4)] 1 (.t 44) 1 false) 5 true,
 o2 46 (.build [.i .i64,.i .i64] [(0,.t 39),(1,.t 45)]) 5 true,
 o2 47 (.load 3 [] 0 .nil 2 false) 5 true,
 ⟨false,[],[],.call 1 45 [.t 46,.t 47] .no,[48],(some 48),some (5,true)⟩,
 o7 33 (.t 48) (.c (.bool false)) 49]))
 (.cond (.t 49)
 .skip
 (.exit 0)))
 (.block 1 (.rg [oc 50 9,
 o1 51 (.data (.bin .add) [.t 50,kD 1]),
 oc 9 51]))))))
 (.seq (.rg [oc 56 9,
 ⟨false,[],[1000000011],.det 1 (.idx .nil),[52],(some 52),none⟩,
 ⟨false,[],[1000000011],.det 1 (.load 2 [] 0 (.t 52) 1 false),[53],(some 53),none⟩,
 ⟨false,[],[1000000011],.det 1 (.idx .nil),[54],(some 54),none⟩,
 ⟨false,[],[1000000011],.det 1 (.load 2 [] 1 (.t 54) 1 false),[55],(some 55),none⟩,
 ⟨false,[],[1000000011],.det 1 (.res 55 none (some (.t 56))),[57],(some 57),none⟩,
 ⟨false,[],[1000000011],.det 1 (.build Ty2 [(0,.t 53),(1,.t 57)]),[58],(some 58),none⟩,
 ⟨false,[],[1000000011],.call 1 46 [.t 58] .no,[59],(some 59),none⟩,
 o5 (.a (.c Ty2 [kV 0,.slice none 0 0])) 10 1000000011,
 o4 2 [10,59] (.store 10 [] 0 .nil (.t 59))])
 (.seq (.rg [o6 66 8,
 o6 71 8,
 oc 82 9,
 ⟨false,[],[1000000003],.det 1 (.idx .nil),[60],(some 60),none⟩,
 ⟨false,[],[1000000003],.det 1 (.load 10 [] 1 (.t 60) 1 true),[61],(some 61),none⟩,
 oi 62,
 o1 63 (.load 3 [] 0 (.t 62) 1 false),
 oi 64,
 o1 65 (.load 3 [] 1 (.t 64) 1 false),
 oi 67,
 o1 68 (.load 3 [] 0 (.t 67) 1 false),
 o1 69 (.index 66 (.t 68)),
 o1 70 (.load 8 [(0,1)] 0 (.t 69) 1 false),
 oi 72,
 o1 73 (.load 3 [] 1 (.t 72) 1 false),
 o1 74 (.index 71 (.t 73)),
 o1 75 (.load 8 [(0,1)] 0 (.t 74) 1 false),
 o1 76 (.data (.bin .neq) [.t 70,.t 75]),
 o5 (.build Ty7 [(0,.t 63),(1,.t 65),(2,kO 0),(3,.t 76)]) 77 1000000003,
 o1 78 (.sli Ty7 [.t 77]),
 ⟨false,[61],[],.det 2 (.app (some 61) 78),[79,61,61,10],(some 79),none⟩,
 ⟨false,[],[1000000003,10],.det 1 (.idx .nil),[80],(some 80),none⟩,
 ⟨false,[],[1000000003,10],.det 1 (.load 2 [] 1 (.t 80) 1 false),[81],(some 81),none⟩,
 ⟨false,[],[1000000003,10],.det 1 (.res 81 (some (.t 82)) none),[83],(some 83),none⟩,
 o5 (.app (some 79) 83) 84 79,
 oi 85,
 o4 2 [10,84,61] (.store 10 [] 1 (.t 85) (.t 84))])
 (.seq (.rg [o1 86 (.load 10 [] 0 .nil 2 true),
 ⟨false,[86],[],.det 2 (.store 4 [] 0 .nil (.t 86)),[4,86,86,10],none,none⟩,
 o1 5 (.lit [.b] [.bool true])])
 .ret))))))))
def s_iWebAdd:Sig:=⟨[.rd true Ct1,.rd true [.d,.d]],(.tup [(true,2),(false,1)] Ct0)⟩
def E_iWebAdd:TEnv:=envOf [(8,p_iGraphOf),(43,p_iAddEdge),(14,p_iWebOk),(44,p_ilabelsAt),(45,p_iahead),(46,p_icopyWeb)]
def f_iWebAdd (n:Nat):(Int × List (Int × Int × Int × Bool)) × (Int × Int)->Option ((Int × List (Int × Int × Int × Bool) × Bool) × Unit):=runFn n E_iWebAdd c_iWebAdd [Ty2,[.i .i64,.i .i64]] Ty1 [] [4,5] .no
def g_iWebAdd:=f_iWebAdd BIG
def p_iWebAdd:TSp:=⟨s_iWebAdd,[Ty2,[.i .i64,.i .i64]],Ty1,[],Ou.j .no,g_iWebAdd⟩
theorem k_iWebAdd:chkW PG E_iWebAdd 12 s_iWebAdd (c_iWebAdd.ht 87) .no=some (c_iWebAdd.wc E_iWebAdd,[4,5]):=by kernel_rfl
theorem ok_iWebAdd:p_iWebAdd.Ok PG 12:=mkOk (env_cons ok_iGraphOf (env_cons ok_iAddEdge (env_cons ok_iWebOk (env_cons ok_ilabelsAt (env_cons ok_iahead (env_cons ok_icopyWeb (env_nil PG))))))) k_iWebAdd (by kernel_rfl)
theorem e_iWebAdd (n) (a0) (a1):f_iWebAdd n (a0,a1) =
 Option.bind (g_iGraphOf a0) fun r0=>
 Option.bind (g_iAddEdge (r0.1,a1)) fun r1=>
 Option.bind (Option.bind (g_iWebOk a0) fun r2=>
 bif !r2.1 then
 some true
 else some !r1.1.2.2:Option (Bool)) fun x3=>
 bif x3 then
 some (((0:Int),[],false),())
 else Option.bind (g_ilabelsAt (a0,(0:Int))) fun r4=>
 Option.bind (loopT n (X:=Int) (B:=Int) (fun self6 x5=>
 Option.bind (bif decide (x5<(a0.2.length:Int)) then
 bnd a0.2.length x5 fun n7=>
 Option.bind a0.2[n7]? fun y8=>
 bnd a0.2.length x5 fun n9=>
 Option.bind a0.2[n9]? fun y10=>
 Option.bind (g_iahead ((y8.1,y10.2.1),a1)) fun r11=>
 some r11.1
 else some false:Option (Bool)) fun x12=>
 bif x12 then
 self6 (IntKind.wrap .i64 (x5+(1:Int)))
 else some x5) (0:Int):Option (Int)) fun x13=>
 bif decide (0<=x13) then
 bif decide (0<=(Int.toNat x13)/\(Int.toNat x13)<=a0.2.length) then
 Option.bind (g_icopyWeb (a0.1,List.take ((Int.toNat x13)-0) (List.drop 0 a0.2))) fun r14=>
 bnd r4.1.length a1.1 fun n15=>
 Option.bind r4.1[n15]? fun y16=>
 bnd r4.1.length a1.2 fun n17=>
 Option.bind r4.1[n17]? fun y18=>
 bif decide (r14.1.2.length+([(a1.1,a1.2,(0:Int),!decide (y16=y18))]).length<=4294967296) then
 bif decide (0<=x13) then
 bif decide ((Int.toNat x13)<=a0.2.length/\a0.2.length<=a0.2.length) then
 bif decide ((r14.1.2++([(a1.1,a1.2,(0:Int),!decide (y16=y18))])).length+(List.take (a0.2.length-(Int.toNat x13)) (List.drop (Int.toNat x13) a0.2)).length<=4294967296) then
 some ((r14.1.1,(r14.1.2++([(a1.1,a1.2,(0:Int),!decide (y16=y18))]))++(List.take (a0.2.length-(Int.toNat x13)) (List.drop (Int.toNat x13) a0.2)),true),())
 else none
 else none
 else none
 else none
 else none
 else none:=by kernel_rfl
def c_lsameEdges:TC:=
 (.seq (.rg [o1 4 (.lit [.b] [.bool false])])
 (.seq (.seq (.rg [oc 6 0,
 o1 7 (.len 6),
 oc 8 1,
 o1 9 (.len 8),
 o1 10 (.data (.bin .neq) [.t 7,.t 9])])
 (.cond (.t 10)
 (.seq (.rg [o1 4 (.lit [.b] [.bool false])])
 .ret)
 .skip))
 (.seq (.join [] 67106864 (some [⟨4,[.b],false⟩]) (.seq (.rg [o1 5 (kL 0)])
 (.block 0 (.loop [⟨5,[.i .i64],false⟩] 67106864
 (.seq (.seq (.rg [oc 11 5,
 oc 12 0,
 o1 13 (.len 12),
 o1 14 (.data (.bin .lss) [.t 11,.t 13])])
 (.cond (.t 14)
 .skip
 (.exit 0)))
 (.seq (.block 1 (.seq (.rg [oc 17 0,
 oc 18 5,
 oc 21 1,
 oc 22 5,
 o1 19 (.index 17 (.t 18)),
 o1 20 (.load 17 [(0,2)] 0 (.t 19) 2 false),
 o1 23 (.index 21 (.t 22)),
 o1 24 (.load 21 [(0,2)] 0 (.t 23) 2 false),
 o1 25 (.eqA [.i,.i] (.t 20) (.t 24) true)])
 (.cond (.t 25)
 (.seq (.rg [o1 4 (.lit [.b] [.bool false])])
 .ret)
 .skip)))
 (.rg [oc 15 5,
 o1 16 (.data (.bin .add) [.t 15,kD 1]),
 oc 5 16])))))))
 (.seq (.rg [o1 4 (.lit [.b] [.bool true])])
 .ret))))
def s_lsameEdges:Sig:=⟨[.rd false Ct4,.rd false Ct4],(.one false [.d])⟩
def E_lsameEdges:TEnv:=envOf []
def f_lsameEdges (n:Nat):(List (Int × Int)) × (List (Int × Int))->Option ((Bool) × Unit):=runFn n E_lsameEdges c_lsameEdges [[.sl [.i .i64,.i .i64]],[.sl [.i .i64,.i .i64]]] [.b] [] [4] .no
def g_lsameEdges:=f_lsameEdges BIG
def p_lsameEdges:TSp:=⟨s_lsameEdges,[[.sl [.i .i64,.i .i64]],[.sl [.i .i64,.i .i64]]],[.b],[],Ou.j .no,g_lsameEdges⟩
theorem k_lsameEdges:chkW PG E_lsameEdges 16 s_lsameEdges (c_lsameEdges.ht 26) .no=some (c_lsameEdges.wc E_lsameEdges,[4]):=by kernel_rfl
theorem ok_lsameEdges:p_lsameEdges.Ok PG 16:=mkOk (env_nil PG) k_lsameEdges (by kernel_rfl)
theorem e_lsameEdges (n) (a0) (a1):f_lsameEdges n (a0,a1) =
 bif !decide ((a0.length:Int)=(a1.length:Int)) then
  some (false,())
 else Option.bind (loopT n (X:=Int) (B:=(Unit) ⊕ (Bool)) (fun self1 x0=>
  bif decide (x0<(a0.length:Int)) then
   bnd a0.length x0 fun n2=>
   Option.bind a0[n2]? fun y3=>
   bnd a1.length x0 fun n4=>
   Option.bind a1[n4]? fun y5=>
   bif !(decide (y3.1=y5.1)&&(decide (y3.2=y5.2)&&true)) then
    some (Sum.inr false)
   else self1 (IntKind.wrap .i64 (x0+(1:Int)))
  else some (Sum.inl ())) (0:Int):Option ((Unit) ⊕ (Bool))) fun y=>match y with
 | .inl x6=>
  some (true,())
 | .inr x6=>
  some (x6,()):=by kernel_rfl
def c_iWebLabels:TC:=
 (.seq (.rg [o1 1 (.a (.t 0)),
 o1 2 (.lit [.sl [.i .i64]] [.slice none 0 0])])
 (.seq (.seq (.rg [o1 3 (.load 1 [] 0 .nil 2 false),
 o3 4 14 [.t 3],
 o1 5 (.data .not [.t 4])])
 (.cond (.t 5)
 (.seq (.rg [o1 2 (.lit [.sl [.i .i64]] [.slice none 0 0])])
 .ret)
 .skip))
 (.seq (.rg [o1 6 (.load 1 [] 0 .nil 2 false),
 o3 7 44 [.t 6,kO 0],
 o5 (.copy 7) 2 7])
 .ret)))
def s_iWebLabels:Sig:=⟨[.rd true Ct1],(.one false Ct5)⟩
def E_iWebLabels:TEnv:=envOf [(14,p_iWebOk),(44,p_ilabelsAt)]
def f_iWebLabels (n:Nat):(Int × List (Int × Int × Int × Bool))->Option ((List (Int)) × Unit):=runFn n E_iWebLabels c_iWebLabels [Ty2] [.sl [.i .i64]] [] [2] .no
def g_iWebLabels:=f_iWebLabels BIG
def p_iWebLabels:TSp:=⟨s_iWebLabels,[Ty2],[.sl [.i .i64]],[],Ou.j .no,g_iWebLabels⟩
theorem k_iWebLabels:chkW PG E_iWebLabels 17 s_iWebLabels (c_iWebLabels.ht 8) .no=some (c_iWebLabels.wc E_iWebLabels,[2]):=by kernel_rfl
theorem ok_iWebLabels:p_iWebLabels.Ok PG 17:=mkOk (env_cons ok_iWebOk (env_cons ok_ilabelsAt (env_nil PG))) k_iWebLabels (by kernel_rfl)
theorem e_iWebLabels (n) (a0):f_iWebLabels n a0 =
 Option.bind (g_iWebOk a0) fun r0=>
 bif !r0.1 then
 some ([],())
 else Option.bind (g_ilabelsAt (a0,(0:Int))) fun r1=>
 some (r1.1,()):=by kernel_rfl
def c_sl05Labels:TC:=
 (.seq (.rg [o1 4 (.lit [.sl [.i .i64]] [.slice none 0 0])])
 (.seq (.rg [o1 11 (.sli [.i .i64] []),
 o5 (.copy 11) 5 11])
 (.seq (.join [⟨5,[.sl [.i .i64]],false⟩] 2093152 none (.seq (.rg [o1 6 (kL 0)])
 (.block 0 (.loop [⟨5,[.sl [.i .i64]],false⟩,⟨6,[.i .i64],false⟩] 2093152
 (.seq (.seq (.rg [oc 12 6,
 oc 13 0,
 o1 14 (.data (.bin .lss) [.t 12,.t 13])])
 (.cond (.t 14)
 .skip
 (.exit 0)))
 (.seq (.block 1 (.rg [o5 (.copy 5) 17 5,
 oc 18 6,
 o1 19 (.sli [.i .i64] [.t 18]),
 o5 (.app (some 17) 19) 20 17,
 o5 (.copy 20) 5 20]))
 (.rg [oc 15 6,
 o1 16 (.data (.bin .add) [.t 15,kD 1]),
 oc 6 16])))))))
 (.seq (.join [⟨5,[.sl [.i .i64]],false⟩] 1180591620717409208224 none (.seq (.rg [o1 7 (kL 0)])
 (.block 2 (.loop [⟨5,[.sl [.i .i64]],false⟩,⟨7,[.i .i64],false⟩] 1180591620717409208224
 (.seq (.seq (.rg [oc 21 7,
 oc 22 0,
 o1 23 (.data (.bin .lss) [.t 21,.t 22])])
 (.cond (.t 23)
 .skip
 (.exit 2)))
 (.seq (.join [⟨5,[.sl [.i .i64]],false⟩] 1180591620717344196384 none (.block 3 (.seq (.rg [o1 8 (kL 0)])
 (.block 4 (.loop [⟨5,[.sl [.i .i64]],false⟩,⟨8,[.i .i64],false⟩] 1180591620717344196384
 (.seq (.seq (.rg [oc 26 8,
 oc 27 1,
 o1 28 (.len 27),
 o1 29 (.data (.bin .lss) [.t 26,.t 28])])
 (.cond (.t 29)
 .skip
 (.exit 4)))
 (.seq (.join [⟨5,[.sl [.i .i64]],false⟩] 1180591620713116337696 none (.block 5 (.seq (.rg [o6 32 5,
 oc 33 1,
 oc 34 8,
 o1 35 (.index 33 (.t 34)),
 o1 36 (.idx (.t 35)),
 o1 37 (.load 33 [(0,2)] 0 (.t 36) 1 false),
 o1 38 (.index 32 (.t 37)),
 o1 39 (.load 5 [(0,1)] 0 (.t 38) 1 false),
 oc 9 39])
 (.seq (.rg [o6 40 5,
 oc 41 1,
 oc 42 8,
 o1 43 (.index 41 (.t 42)),
 o1 44 (.idx (.t 43)),
 o1 45 (.load 41 [(0,2)] 1 (.t 44) 1 false),
 o1 46 (.index 40 (.t 45)),
 o1 47 (.load 5 [(0,1)] 0 (.t 46) 1 false),
 oc 10 47])
 (.seq (.join [⟨5,[.sl [.i .i64]],false⟩] 576180381133307936 none (.seq (.rg [oc 48 9,
 oc 49 10,
 o1 50 (.data (.bin .lss) [.t 48,.t 49])])
 (.cond (.t 50)
 (.rg [o6 51 5,
 oc 52 1,
 oc 53 8,
 o1 54 (.index 52 (.t 53)),
 o1 55 (.idx (.t 54)),
 o1 56 (.load 52 [(0,2)] 1 (.t 55) 1 false),
 oc 57 9,
 o1 58 (.index 51 (.t 56)),
 o4 1 [5,32,40,51] (.store 5 [(0,1)] 0 (.t 58) (.t 57))])
 .skip)))
 (.seq (.rg [oc 59 10,
 oc 60 9,
 o1 61 (.data (.bin .lss) [.t 59,.t 60])])
 (.cond (.t 61)
 (.rg [o6 62 5,
 oc 63 1,
 oc 64 8,
 o1 65 (.index 63 (.t 64)),
 o1 66 (.idx (.t 65)),
 o1 67 (.load 63 [(0,2)] 0 (.t 66) 1 false),
 oc 68 10,
 o1 69 (.index 62 (.t 67)),
 o4 1 [5,62] (.store 5 [(0,1)] 0 (.t 69) (.t 68))])
 .skip)))))))
 (.rg [oc 30 8,
 o1 31 (.data (.bin .add) [.t 30,kD 1]),
 oc 8 31]))))))))
 (.rg [oc 24 7,
 o1 25 (.data (.bin .add) [.t 24,kD 1]),
 oc 7 25])))))))
 (.seq (.rg [o5 (.copy 5) 70 5,
 o5 (.copy 70) 4 70])
 .ret)))))
def s_sl05Labels:Sig:=⟨[.rd false [.d],.rd false Ct4],(.one false Ct5)⟩
def E_sl05Labels:TEnv:=envOf []
def f_sl05Labels (n:Nat):Int × (List (Int × Int))->Option ((List (Int)) × Unit):=runFn n E_sl05Labels c_sl05Labels [[.i .i64],[.sl [.i .i64,.i .i64]]] [.sl [.i .i64]] [] [4] .no
def g_sl05Labels:=f_sl05Labels BIG
def p_sl05Labels:TSp:=⟨s_sl05Labels,[[.i .i64],[.sl [.i .i64,.i .i64]]],[.sl [.i .i64]],[],Ou.j .no,g_sl05Labels⟩
theorem k_sl05Labels:chkW PG E_sl05Labels 58 s_sl05Labels (c_sl05Labels.ht 71) .no=some (c_sl05Labels.wc E_sl05Labels,[4]):=by kernel_rfl
theorem ok_sl05Labels:p_sl05Labels.Ok PG 58:=mkOk (env_nil PG) k_sl05Labels (by kernel_rfl)
theorem e_sl05Labels (n) (a0) (a1):f_sl05Labels n (a0,a1) =
 Option.bind (loopT n (X:=(List (Int)) × Int) (B:=(List (Int))) (fun self1 x0=>
 bif decide (x0.2<a0) then
 bif decide (x0.1.length+[x0.2].length<=4294967296) then
 self1 (x0.1++[x0.2],IntKind.wrap .i64 (x0.2+(1:Int)))
 else none
 else some x0.1) ([],(0:Int)):Option ((List (Int)))) fun x2=>
 Option.bind (loopT n (X:=(List (Int)) × Int) (B:=(List (Int))) (fun self4 x3=>
 bif decide (x3.2<a0) then
 Option.bind (loopT n (X:=(List (Int)) × Int) (B:=(List (Int))) (fun self6 x5=>
 bif decide (x5.2<(a1.length:Int)) then
 Option.bind (bnd a1.length x5.2 fun n7=>
 Option.bind a1[n7]? fun y8=>
 bnd x5.1.length y8.1 fun n9=>
 Option.bind x5.1[n9]? fun y10=>
 bnd a1.length x5.2 fun n11=>
 Option.bind a1[n11]? fun y12=>
 bnd x5.1.length y12.2 fun n13=>
 Option.bind x5.1[n13]? fun y14=>
 Option.bind (bif decide (y10<y14) then
 bnd a1.length x5.2 fun n15=>
 Option.bind a1[n15]? fun y16=>
 bnd x5.1.length y16.2 fun n17=>
 Option.bind x5.1[n17]? fun y18=>
 some (x5.1.set n17 y10)
 else some x5.1:Option ((List (Int)))) fun x19=>
 bif decide (y14<y10) then
 bnd a1.length x5.2 fun n20=>
 Option.bind a1[n20]? fun y21=>
 bnd x19.length y21.1 fun n22=>
 Option.bind x19[n22]? fun y23=>
 some (x19.set n22 y14)
 else some x19:Option ((List (Int)))) fun x24=>
 self6 (x24,IntKind.wrap .i64 (x5.2+(1:Int)))
 else some x5.1) (x3.1,(0:Int)):Option ((List (Int)))) fun x25=>
 self4 (x25,IntKind.wrap .i64 (x3.2+(1:Int)))
 else some x3.1) (x2,(0:Int)):Option ((List (Int)))) fun x26=>
 some (x26,()):=by kernel_rfl
def c_sLabels:TC:=
 (.seq (.rg [o1 1 (.a (.t 0)),
 o1 2 (.lit [.sl [.i .i64]] [.slice none 0 0])])
 (.seq (.seq (.rg [o1 3 (.load 1 [] 0 .nil 2 false),
 o3 4 41 [.t 3],
 o1 5 (.data .not [.t 4])])
 (.cond (.t 5)
 (.seq (.rg [o1 6 (.sli [.i .i64] []),
 o5 (.copy 6) 2 6])
 .ret)
 .skip))
 (.seq (.rg [oi 7,
 o1 8 (.load 1 [] 0 (.t 7) 1 false),
 oi 9,
 o1 10 (.load 1 [] 1 (.t 9) 1 false),
 o3 11 58 [.t 8,.t 10],
 o5 (.copy 11) 2 11])
 .ret)))
def s_sLabels:Sig:=⟨[.rd true Ct3],(.one false Ct5)⟩
def E_sLabels:TEnv:=envOf [(41,p_sGraphOk),(58,p_sl05Labels)]
def f_sLabels (n:Nat):(Int × List (Int × Int))->Option ((List (Int)) × Unit):=runFn n E_sLabels c_sLabels [Ty5] [.sl [.i .i64]] [] [2] .no
def g_sLabels:=f_sLabels BIG
def p_sLabels:TSp:=⟨s_sLabels,[Ty5],[.sl [.i .i64]],[],Ou.j .no,g_sLabels⟩
theorem k_sLabels:chkW PG E_sLabels 19 s_sLabels (c_sLabels.ht 12) .no=some (c_sLabels.wc E_sLabels,[2]):=by kernel_rfl
theorem ok_sLabels:p_sLabels.Ok PG 19:=mkOk (env_cons ok_sGraphOk (env_cons ok_sl05Labels (env_nil PG))) k_sLabels (by kernel_rfl)
theorem e_sLabels (n) (a0):f_sLabels n a0 =
 Option.bind (g_sGraphOk a0) fun r0=>
 bif !r0.1 then
 some ([],())
 else Option.bind (g_sl05Labels (a0.1,a0.2)) fun r1=>
 some (r1.1,()):=by kernel_rfl
def c_lsameInts:TC:=
 (.seq (.rg [o1 4 (.lit [.b] [.bool false])])
 (.seq (.seq (.rg [oc 6 0,
 o1 7 (.len 6),
 oc 8 1,
 o1 9 (.len 8),
 o1 10 (.data (.bin .neq) [.t 7,.t 9])])
 (.cond (.t 10)
 (.seq (.rg [o1 4 (.lit [.b] [.bool false])])
 .ret)
 .skip))
 (.seq (.join [] 67106864 (some [⟨4,[.b],false⟩]) (.seq (.rg [o1 5 (kL 0)])
 (.block 0 (.loop [⟨5,[.i .i64],false⟩] 67106864
 (.seq (.seq (.rg [oc 11 5,
 oc 12 0,
 o1 13 (.len 12),
 o1 14 (.data (.bin .lss) [.t 11,.t 13])])
 (.cond (.t 14)
 .skip
 (.exit 0)))
 (.seq (.block 1 (.seq (.rg [oc 17 0,
 oc 18 5,
 oc 21 1,
 oc 22 5,
 o1 19 (.index 17 (.t 18)),
 o1 20 (.load 17 [(0,1)] 0 (.t 19) 1 false),
 o1 23 (.index 21 (.t 22)),
 o1 24 (.load 21 [(0,1)] 0 (.t 23) 1 false),
 o1 25 (.data (.bin .neq) [.t 20,.t 24])])
 (.cond (.t 25)
 (.seq (.rg [o1 4 (.lit [.b] [.bool false])])
 .ret)
 .skip)))
 (.rg [oc 15 5,
 o1 16 (.data (.bin .add) [.t 15,kD 1]),
 oc 5 16])))))))
 (.seq (.rg [o1 4 (.lit [.b] [.bool true])])
 .ret))))
def s_lsameInts:Sig:=⟨[.rd false Ct5,.rd false Ct5],(.one false [.d])⟩
def E_lsameInts:TEnv:=envOf []
def f_lsameInts (n:Nat):List (Int) × List (Int)->Option ((Bool) × Unit):=runFn n E_lsameInts c_lsameInts [[.sl [.i .i64]],[.sl [.i .i64]]] [.b] [] [4] .no
def g_lsameInts:=f_lsameInts BIG
def p_lsameInts:TSp:=⟨s_lsameInts,[[.sl [.i .i64]],[.sl [.i .i64]]],[.b],[],Ou.j .no,g_lsameInts⟩
theorem k_lsameInts:chkW PG E_lsameInts 18 s_lsameInts (c_lsameInts.ht 26) .no=some (c_lsameInts.wc E_lsameInts,[4]):=by kernel_rfl
theorem ok_lsameInts:p_lsameInts.Ok PG 18:=mkOk (env_nil PG) k_lsameInts (by kernel_rfl)
theorem e_lsameInts (n) (a0) (a1):f_lsameInts n (a0,a1) =
 bif !decide ((a0.length:Int)=(a1.length:Int)) then
  some (false,())
 else Option.bind (loopT n (X:=Int) (B:=(Unit) ⊕ (Bool)) (fun self1 x0=>
  bif decide (x0<(a0.length:Int)) then
   bnd a0.length x0 fun n2=>
   Option.bind a0[n2]? fun y3=>
   bnd a1.length x0 fun n4=>
   Option.bind a1[n4]? fun y5=>
   bif !decide (y3=y5) then
    some (Sum.inr false)
   else self1 (IntKind.wrap .i64 (x0+(1:Int)))
  else some (Sum.inl ())) (0:Int):Option ((Unit) ⊕ (Bool))) fun y=>match y with
 | .inl x6=>
  some (true,())
 | .inr x6=>
  some (x6,()):=by kernel_rfl
def c_iWebTogether:TC:=
 (.seq (.rg [o1 3 (.a (.t 0)),
 o1 6 (.lit [.b] [.bool false])])
 (.seq (.seq (.join [⟨26,[.b],false⟩] 134217472 none (.rg [o1 8 (.load 3 [] 0 .nil 2 false),
 o3 9 14 [.t 8],
 o1 10 (.data .not [.t 9]),
 oc 11 10,
 o2 12 (.copy 1) 3 false,
 o2 13 (.idx .nil) 3 false,
 o2 14 (.load 3 [] 0 (.t 13) 1 false) 3 false,
 o2 15 (.data (.bin .sub) [.t 14,kD 1]) 3 false,
 ⟨false,[],[],.call 1 52 [.t 12,kO 0,.t 15] .no,[16],(some 16),some (3,false)⟩,
 o2 17 (.data .not [.t 16]) 3 false,
 o7 11 (.c (.bool true)) (.t 17) 18,
 oc 19 18,
 o2 20 (.copy 2) 11 false,
 o2 21 (.idx .nil) 11 false,
 o2 22 (.load 3 [] 0 (.t 21) 1 false) 11 false,
 o2 23 (.data (.bin .sub) [.t 22,kD 1]) 11 false,
 ⟨false,[],[],.call 1 52 [.t 20,kO 0,.t 23] .no,[24],(some 24),some (11,false)⟩,
 o2 25 (.data .not [.t 24]) 11 false,
 o7 19 (.c (.bool true)) (.t 25) 26]))
 (.cond (.t 26)
 (.seq (.rg [o1 6 (.lit [.b] [.bool false])])
 .ret)
 .skip))
 (.seq (.rg [o1 27 (.load 3 [] 0 .nil 2 false),
 o3 28 44 [.t 27,kO 0],
 o5 (.copy 28) 7 28])
 (.seq (.rg [o6 29 7,
 oc 30 1,
 o6 33 7,
 oc 34 2,
 o1 31 (.index 29 (.t 30)),
 o1 32 (.load 7 [(0,1)] 0 (.t 31) 1 false),
 o1 35 (.index 33 (.t 34)),
 o1 36 (.load 7 [(0,1)] 0 (.t 35) 1 false),
 o1 37 (.data (.bin .eql) [.t 32,.t 36]),
 oc 6 37])
 .ret))))
def s_iWebTogether:Sig:=⟨[.rd true Ct1,.rd false [.d],.rd false [.d]],(.one false [.d])⟩
def E_iWebTogether:TEnv:=envOf [(14,p_iWebOk),(52,p_iin),(44,p_ilabelsAt)]
def f_iWebTogether (n:Nat):(Int × List (Int × Int × Int × Bool)) × Int × Int->Option ((Bool) × Unit):=runFn n E_iWebTogether c_iWebTogether [Ty2,[.i .i64],[.i .i64]] [.b] [] [6] .no
def g_iWebTogether:=f_iWebTogether BIG
def p_iWebTogether:TSp:=⟨s_iWebTogether,[Ty2,[.i .i64],[.i .i64]],[.b],[],Ou.j .no,g_iWebTogether⟩
theorem k_iWebTogether:chkW PG E_iWebTogether 20 s_iWebTogether (c_iWebTogether.ht 38) .no=some (c_iWebTogether.wc E_iWebTogether,[6]):=by kernel_rfl
theorem ok_iWebTogether:p_iWebTogether.Ok PG 20:=mkOk (env_cons ok_iWebOk (env_cons ok_iin (env_cons ok_ilabelsAt (env_nil PG)))) k_iWebTogether (by kernel_rfl)
theorem e_iWebTogether (n) (a0) (a1) (a2):f_iWebTogether n (a0,a1,a2) =
 Option.bind (Option.bind (g_iWebOk a0) fun r0=>
 bif !r0.1 then
 some true
 else Option.bind (g_iin (a1,(0:Int),IntKind.wrap .i64 (a0.1-(1:Int)))) fun r1=>
 bif !r1.1 then
 some true
 else Option.bind (g_iin (a2,(0:Int),IntKind.wrap .i64 (a0.1-(1:Int)))) fun r2=>
 some !r2.1:Option (Bool)) fun x3=>
 bif x3 then
 some (false,())
 else Option.bind (g_ilabelsAt (a0,(0:Int))) fun r4=>
 bnd r4.1.length a1 fun n5=>
 Option.bind r4.1[n5]? fun y6=>
 bnd r4.1.length a2 fun n7=>
 Option.bind r4.1[n7]? fun y8=>
 some (decide (y6=y8),()):=by kernel_rfl
def c_sTogether:TC:=
 (.seq (.rg [o1 3 (.a (.t 0)),
 o1 6 (.lit [.b] [.bool false])])
 (.seq (.rg [o1 8 (.load 3 [] 0 .nil 2 false),
 o3 9 19 [.t 8],
 o5 (.copy 9) 7 9])
 (.seq (.join [⟨6,[.b],false⟩] 8589933632 none (.rg [oc 10 1,
 o6 11 7,
 o1 12 (.len 11),
 o1 13 (.data (.bin .sub) [.t 12,kD 1]),
 o3 14 54 [.t 10,kO 0,.t 13],
 oc 15 14,
 o2 16 (.copy 2) 5 true,
 ⟨true,[],[],.det 1 (.copy 7),[17],(some 17),some (5,true)⟩,
 o2 18 (.len 17) 5 true,
 o2 19 (.data (.bin .sub) [.t 18,kD 1]) 5 true,
 ⟨false,[],[],.call 1 54 [.t 16,kO 0,.t 19] .no,[20],(some 20),some (5,true)⟩,
 o7 15 (.t 20) (.c (.bool false)) 21,
 oc 22 21,
 ⟨true,[],[],.det 1 (.copy 7),[23],(some 23),some (12,true)⟩,
 o2 24 (.copy 1) 12 true,
 o2 25 (.index 23 (.t 24)) 12 true,
 o2 26 (.load 7 [(0,1)] 0 (.t 25) 1 false) 12 true,
 ⟨true,[],[],.det 1 (.copy 7),[27],(some 27),some (12,true)⟩,
 o2 28 (.copy 2) 12 true,
 o2 29 (.index 27 (.t 28)) 12 true,
 o2 30 (.load 7 [(0,1)] 0 (.t 29) 1 false) 12 true,
 o2 31 (.data (.bin .eql) [.t 26,.t 30]) 12 true,
 o7 22 (.t 31) (.c (.bool false)) 32,
 oc 6 32]))
 .ret)))
def s_sTogether:Sig:=⟨[.rd true Ct3,.rd false [.d],.rd false [.d]],(.one false [.d])⟩
def E_sTogether:TEnv:=envOf [(19,p_sLabels),(54,p_sl01In)]
def f_sTogether (n:Nat):(Int × List (Int × Int)) × Int × Int->Option ((Bool) × Unit):=runFn n E_sTogether c_sTogether [Ty5,[.i .i64],[.i .i64]] [.b] [] [6] .no
def g_sTogether:=f_sTogether BIG
def p_sTogether:TSp:=⟨s_sTogether,[Ty5,[.i .i64],[.i .i64]],[.b],[],Ou.j .no,g_sTogether⟩
theorem k_sTogether:chkW PG E_sTogether 21 s_sTogether (c_sTogether.ht 33) .no=some (c_sTogether.wc E_sTogether,[6]):=by kernel_rfl
theorem ok_sTogether:p_sTogether.Ok PG 21:=mkOk (env_cons ok_sLabels (env_cons ok_sl01In (env_nil PG))) k_sTogether (by kernel_rfl)
theorem e_sTogether (n) (a0) (a1) (a2):f_sTogether n (a0,a1,a2) =
 Option.bind (g_sLabels a0) fun r0=>
 Option.bind (Option.bind (g_sl01In (a1,(0:Int),IntKind.wrap .i64 ((r0.1.length:Int)-(1:Int)))) fun r1=>
 bif r1.1 then
 Option.bind (g_sl01In (a2,(0:Int),IntKind.wrap .i64 ((r0.1.length:Int)-(1:Int)))) fun r2=>
 bif r2.1 then
 bnd r0.1.length a1 fun n3=>
 Option.bind r0.1[n3]? fun y4=>
 bnd r0.1.length a2 fun n5=>
 Option.bind r0.1[n5]? fun y6=>
 some (decide (y4=y6))
 else some false
 else some false:Option (Bool)) fun x7=>
 some (x7,()):=by kernel_rfl
def c_lFnWebs:TC:=
 (.seq (.rg [o1 2 (.lit [.b] [.bool false])])
 (.seq (.seq (.rg [oc 11 0,
 o3 12 6 [.t 11]])
 (.cond (.t 12)
 (.seq (.rg [o1 2 (.lit [.b] [.bool true])])
 .ret)
 .skip))
 (.seq (.rg [oc 14 0,
 o3 15 7 [.t 14],
 o5 (.copy 15) 13 15,
 o1 16 (.ext 13 0 2),
 o1 17 (.ext 13 2 2),
 o5 (.a (.c Ty2 [kV 0,.slice none 0 0])) 3 1000000004,
 o5 (.a (.c [.i .i64,.i .i64] [kV 0,kV 0])) 4 1000000005,
 o4 1 [3] (.store 3 [] 0 .nil (.t 16)),
 o4 1 [4] (.store 4 [] 0 .nil (.t 17))])
 (.seq (.rg [o1 18 (.load 3 [] 0 .nil 2 false),
 o3 19 8 [.t 18],
 o5 (.a (.c Ty5 [kV 0,.slice none 0 0])) 5 1000000006,
 o4 2 [5,19] (.store 5 [] 0 .nil (.t 19))])
 (.seq (.rg [o1 20 (.load 5 [] 0 .nil 2 true),
 o1 21 (.load 4 [] 0 .nil 2 false),
 o3 22 9 [.t 20,.t 21],
 oc 6 22])
 (.seq (.rg [o1 23 (.build Ty2 []),
 o5 (.a (.c Ty2 [kV 0,.slice none 0 0])) 7 1000000008,
 o4 2 [7,23] (.store 7 [] 0 .nil (.t 23))])
 (.seq (.rg [o1 8 (.lit [.b] [.bool false])])
 (.seq (.rg [o1 24 (.build Ty5 []),
 o5 (.a (.c Ty5 [kV 0,.slice none 0 0])) 9 1000000010,
 o4 2 [9,24] (.store 9 [] 0 .nil (.t 24))])
 (.seq (.join [⟨7,Ty2,false⟩,⟨8,[.b],false⟩,⟨9,Ty5,false⟩] 4503599593816960 none (.seq (.rg [oc 25 6])
 (.cond (.t 25)
 (.seq (.rg [o1 27 (.load 3 [] 0 .nil 2 false),
 o1 28 (.load 4 [] 0 .nil 2 false),
 o3 29 10 [.t 27,.t 28],
 o5 (.copy 29) 26 29,
 o5 (.ext 26 0 2) 30 26,
 o1 31 (.ext 26 2 2),
 o1 32 (.ext 26 4 1),
 o1 33 (.ext 26 5 1),
 o4 2 [7,30] (.store 7 [] 0 .nil (.t 30)),
 oc 8 33])
 (.rg [o1 35 (.load 5 [] 0 .nil 2 true),
 o1 36 (.load 4 [] 0 .nil 2 false),
 o3 37 11 [.t 35,.t 36],
 o5 (.copy 37) 34 37,
 o5 (.ext 34 0 2) 38 34,
 o1 39 (.ext 34 2 1),
 o4 2 [9,38] (.store 9 [] 0 .nil (.t 38))]))
 (.seq (.rg [o1 41 (.load 3 [] 0 .nil 2 false),
 o1 42 (.load 4 [] 0 .nil 2 false),
 o3 43 12 [.t 41,.t 42],
 o5 (.copy 43) 40 43,
 o5 (.ext 40 0 2) 44 40,
 o1 45 (.ext 40 2 1),
 o4 2 [7,44] (.store 7 [] 0 .nil (.t 44)),
 oc 8 45])
 (.rg [o1 47 (.load 5 [] 0 .nil 2 true),
 o1 48 (.load 4 [] 0 .nil 2 false),
 o3 49 13 [.t 47,.t 48],
 o5 (.copy 49) 46 49,
 o5 (.ext 46 0 2) 50 46,
 o1 51 (.ext 46 2 1),
 o4 2 [9,50] (.store 9 [] 0 .nil (.t 50))])))))
 (.seq (.seq (.join [⟨77,[.b],false⟩] 302231450400057666306048 none (.rg [oc 52 8,
 o1 53 (.data .not [.t 52]),
 oc 54 53,
 o2 55 (.load 3 [] 0 .nil 2 false) 2 false,
 ⟨false,[],[],.call 1 14 [.t 55] .no,[56],(some 56),some (2,false)⟩,
 o2 57 (.data .not [.t 56]) 2 false,
 o7 54 (.c (.bool true)) (.t 57) 58,
 oc 59 58,
 o2 60 (.load 7 [] 0 .nil 2 true) 7 false,
 ⟨false,[],[],.call 1 14 [.t 60] .no,[61],(some 61),some (7,false)⟩,
 o2 62 (.data .not [.t 61]) 7 false,
 o7 59 (.c (.bool true)) (.t 62) 63,
 oc 64 63,
 o2 65 (.load 7 [] 0 .nil 2 true) 12 false,
 ⟨false,[],[],.call 1 15 [.t 65] .no,[66],(some 66),some (12,false)⟩,
 o2 67 (.data .not [.t 66]) 12 false,
 o7 64 (.c (.bool true)) (.t 67) 68,
 oc 69 68,
 o2 70 (.load 7 [] 0 .nil 2 true) 17 false,
 ⟨false,[],[],.call 1 8 [.t 70] .no,[71],(some 71),some (17,false)⟩,
 ⟨false,[],[],.det 2 (.ext 71 1 1),[72,71],(some 72),some (17,false)⟩,
 o2 73 (.idx .nil) 17 false,
 o2 74 (.load 9 [] 1 (.t 73) 1 true) 17 false,
 ⟨false,[],[],.call 1 16 [.t 72,.t 74] .no,[75],(some 75),some (17,false)⟩,
 o2 76 (.data .not [.t 75]) 17 false,
 o7 69 (.c (.bool true)) (.t 76) 77]))
 (.cond (.t 77)
 (.seq (.rg [o1 2 (.lit [.b] [.bool false])])
 .ret)
 .skip))
 (.seq (.rg [o1 78 (.load 7 [] 0 .nil 2 true),
 o3 79 17 [.t 78],
 o5 (.copy 79) 10 79])
 (.seq (.join [⟨2,[.b],false⟩] 633824091188295086119176897540 none (.rg [o5 (.copy 10) 80 10,
 o1 81 (.load 9 [] 0 .nil 2 true),
 o3 82 19 [.t 81],
 o3 83 18 [.t 80,.t 82],
 oc 84 83,
 o2 85 (.load 7 [] 0 .nil 2 true) 4 true,
 o2 86 (.idx .nil) 4 true,
 o2 87 (.load 4 [] 0 (.t 86) 1 false) 4 true,
 o2 88 (.idx .nil) 4 true,
 o2 89 (.load 4 [] 1 (.t 88) 1 false) 4 true,
 ⟨false,[],[],.call 1 20 [.t 85,.t 87,.t 89] .no,[90],(some 90),some (4,true)⟩,
 o2 91 (.load 9 [] 0 .nil 2 true) 4 true,
 o2 92 (.idx .nil) 4 true,
 o2 93 (.load 4 [] 0 (.t 92) 1 false) 4 true,
 o2 94 (.idx .nil) 4 true,
 o2 95 (.load 4 [] 1 (.t 94) 1 false) 4 true,
 ⟨false,[],[],.call 1 21 [.t 91,.t 93,.t 95] .no,[96],(some 96),some (4,true)⟩,
 o2 97 (.data (.beq false) [.t 90,.t 96]) 4 true,
 o7 84 (.t 97) (.c (.bool false)) 98,
 oc 2 98]))
 .ret))))))))))))
def s_lFnWebs:Sig:=⟨[.rd false Ct5],(.one false [.d])⟩
def E_lFnWebs:TEnv:=envOf [(6,p_lbig),(7,p_sDrawRightWeb),(8,p_iGraphOf),(9,p_sHasEdge),(10,p_iWebTake),(11,p_sTakeEdge),(12,p_iWebAdd),(13,p_sAddEdge),(14,p_iWebOk),(15,p_sWebOk),(16,p_lsameEdges),(17,p_iWebLabels),(19,p_sLabels),(18,p_lsameInts),(20,p_iWebTogether),(21,p_sTogether)]
def f_lFnWebs (n:Nat):List (Int)->Option ((Bool) × Unit):=runFn n E_lFnWebs c_lFnWebs [[.sl [.i .u8]]] [.b] [] [2] .no
def g_lFnWebs:=f_lFnWebs BIG
def p_lFnWebs:TSp:=⟨s_lFnWebs,[[.sl [.i .u8]]],[.b],[],Ou.j .no,g_lFnWebs⟩
theorem k_lFnWebs:chkW PG E_lFnWebs 3 s_lFnWebs (c_lFnWebs.ht 99) .no=some (c_lFnWebs.wc E_lFnWebs,[2]):=by kernel_rfl
theorem ok_lFnWebs:p_lFnWebs.Ok PG 3:=mkOk (env_cons ok_lbig (env_cons ok_sDrawRightWeb (env_cons ok_iGraphOf (env_cons ok_sHasEdge (env_cons ok_iWebTake (env_cons ok_sTakeEdge (env_cons ok_iWebAdd (env_cons ok_sAddEdge (env_cons ok_iWebOk (env_cons ok_sWebOk (env_cons ok_lsameEdges (env_cons ok_iWebLabels (env_cons ok_sLabels (env_cons ok_lsameInts (env_cons ok_iWebTogether (env_cons ok_sTogether (env_nil PG))))))))))))))))) k_lFnWebs (by kernel_rfl)
theorem e_lFnWebs (n) (a0):f_lFnWebs n a0 =
 Option.bind (g_lbig a0) fun r0=>
 bif r0.1 then
 some (true,())
 else Option.bind (g_sDrawRightWeb a0) fun r1=>
 Option.bind (g_iGraphOf (r1.1.1,r1.1.2.1)) fun r2=>
 Option.bind (g_sHasEdge (r2.1,r1.1.2.2)) fun r3=>
 Option.bind (bif r3.1 then
 Option.bind (g_iWebTake ((r1.1.1,r1.1.2.1),r1.1.2.2)) fun r4=>
 Option.bind (g_sTakeEdge (r2.1,r1.1.2.2)) fun r5=>
 some ((r4.1.1,r4.1.2.1),r4.1.2.2.2.2.2,(r5.1.1,r5.1.2.1))
 else Option.bind (g_iWebAdd ((r1.1.1,r1.1.2.1),r1.1.2.2)) fun r6=>
 Option.bind (g_sAddEdge (r2.1,r1.1.2.2)) fun r7=>
 some ((r6.1.1,r6.1.2.1),r6.1.2.2,(r7.1.1,r7.1.2.1)):Option ((Int × List (Int × Int × Int × Bool)) × Bool × (Int × List (Int × Int)))) fun x8=>
 Option.bind (bif !x8.2.1 then
 some true
 else Option.bind (g_iWebOk (r1.1.1,r1.1.2.1)) fun r9=>
 bif !r9.1 then
 some true
 else Option.bind (g_iWebOk x8.1) fun r10=>
 bif !r10.1 then
 some true
 else Option.bind (g_sWebOk x8.1) fun r11=>
 bif !r11.1 then
 some true
 else Option.bind (g_iGraphOf x8.1) fun r12=>
 Option.bind (g_lsameEdges (r12.1.2,x8.2.2.2)) fun r13=>
 some !r13.1:Option (Bool)) fun x14=>
 bif x14 then
 some (false,())
 else Option.bind (g_iWebLabels x8.1) fun r15=>
 Option.bind (Option.bind (g_sLabels x8.2.2) fun r16=>
 Option.bind (g_lsameInts (r15.1,r16.1)) fun r17=>
 bif r17.1 then
 Option.bind (g_iWebTogether (x8.1,r1.1.2.2.1,r1.1.2.2.2)) fun r18=>
 Option.bind (g_sTogether (x8.2.2,r1.1.2.2.1,r1.1.2.2.2)) fun r19=>
 some (r18.1 == r19.1)
 else some false:Option (Bool)) fun x20=>
 some (x20,()):=by kernel_rfl
def c_sl05SameInts:TC:=
 (.seq (.rg [o1 4 (.lit [.b] [.bool false])])
 (.seq (.seq (.rg [oc 6 0,
 o1 7 (.len 6),
 oc 8 1,
 o1 9 (.len 8),
 o1 10 (.data (.bin .neq) [.t 7,.t 9])])
 (.cond (.t 10)
 (.seq (.rg [o1 4 (.lit [.b] [.bool false])])
 .ret)
 .skip))
 (.seq (.join [] 67106864 (some [⟨4,[.b],false⟩]) (.seq (.rg [o1 5 (kL 0)])
 (.block 0 (.loop [⟨5,[.i .i64],false⟩] 67106864
 (.seq (.seq (.rg [oc 11 5,
 oc 12 0,
 o1 13 (.len 12),
 o1 14 (.data (.bin .lss) [.t 11,.t 13])])
 (.cond (.t 14)
 .skip
 (.exit 0)))
 (.seq (.block 1 (.seq (.rg [oc 17 0,
 oc 18 5,
 oc 21 1,
 oc 22 5,
 o1 19 (.index 17 (.t 18)),
 o1 20 (.load 17 [(0,1)] 0 (.t 19) 1 false),
 o1 23 (.index 21 (.t 22)),
 o1 24 (.load 21 [(0,1)] 0 (.t 23) 1 false),
 o1 25 (.data (.bin .neq) [.t 20,.t 24])])
 (.cond (.t 25)
 (.seq (.rg [o1 4 (.lit [.b] [.bool false])])
 .ret)
 .skip)))
 (.rg [oc 15 5,
 o1 16 (.data (.bin .add) [.t 15,kD 1]),
 oc 5 16])))))))
 (.seq (.rg [o1 4 (.lit [.b] [.bool true])])
 .ret))))
def s_sl05SameInts:Sig:=⟨[.rd false Ct5,.rd false Ct5],(.one false [.d])⟩
def E_sl05SameInts:TEnv:=envOf []
def f_sl05SameInts (n:Nat):List (Int) × List (Int)->Option ((Bool) × Unit):=runFn n E_sl05SameInts c_sl05SameInts [[.sl [.i .i64]],[.sl [.i .i64]]] [.b] [] [4] .no
def g_sl05SameInts:=f_sl05SameInts BIG
def p_sl05SameInts:TSp:=⟨s_sl05SameInts,[[.sl [.i .i64]],[.sl [.i .i64]]],[.b],[],Ou.j .no,g_sl05SameInts⟩
theorem k_sl05SameInts:chkW PG E_sl05SameInts 99 s_sl05SameInts (c_sl05SameInts.ht 26) .no=some (c_sl05SameInts.wc E_sl05SameInts,[4]):=by kernel_rfl
theorem ok_sl05SameInts:p_sl05SameInts.Ok PG 99:=mkOk (env_nil PG) k_sl05SameInts (by kernel_rfl)
theorem e_sl05SameInts (n) (a0) (a1):f_sl05SameInts n (a0,a1) =
 bif !decide ((a0.length:Int)=(a1.length:Int)) then
  some (false,())
 else Option.bind (loopT n (X:=Int) (B:=(Unit) ⊕ (Bool)) (fun self1 x0=>
  bif decide (x0<(a0.length:Int)) then
   bnd a0.length x0 fun n2=>
   Option.bind a0[n2]? fun y3=>
   bnd a1.length x0 fun n4=>
   Option.bind a1[n4]? fun y5=>
   bif !decide (y3=y5) then
    some (Sum.inr false)
   else self1 (IntKind.wrap .i64 (x0+(1:Int)))
  else some (Sum.inl ())) (0:Int):Option ((Unit) ⊕ (Bool))) fun y=>match y with
 | .inl x6=>
  some (true,())
 | .inr x6=>
  some (x6,()):=by kernel_rfl
end
end Go.Fw
