/- The given functions, as what they compute; each is shown to be what the code does. No conditions. -/
import Derived.Test.YtnjbmfecjooibaaGreatX1
set_option linter.unusedVariables false
set_option linter.unusedSimpArgs false
set_option linter.unusedSectionVars false
namespace Go.Fw
noncomputable section
def c_lFnExactObey:TC:=
 (.seq (.rg [o1 2 (.a (.t 0)),
 o1 3 (.a (.t 1)),
 o1 4 (.lit [.b] [.bool false])])
 (.seq (.rg [o1 5 (kL 1048576)])
 (.seq (.rg [o1 20 (.load 2 [] 0 .nil 7 false),
 oc 21 5,
 o3 22 5 [.t 20,.t 21],
 oc 5 22])
 (.seq (.seq (.rg [oc 23 5,
 o1 24 (.data (.bin .lss) [.t 23,kD 0])])
 (.cond (.t 24)
 (.seq (.rg [o1 4 (.lit [.b] [.bool true])])
 .ret)
 .skip))
 (.seq (.rg [o1 25 (.load 3 [] 0 .nil 4 false),
 oc 26 5,
 o3 27 6 [.t 25,.t 26],
 oc 5 27])
 (.seq (.seq (.rg [oc 28 5,
 o1 29 (.data (.bin .lss) [.t 28,kD 0])])
 (.cond (.t 29)
 (.seq (.rg [o1 4 (.lit [.b] [.bool true])])
 .ret)
 .skip))
 (.seq (.rg [⟨false,[],[1000000007,1000000008],.det 1 (.load 2 [] 0 .nil 7 false),[31],(some 31),none⟩,
 ⟨false,[],[1000000007,1000000008],.call 1 8 [.t 31] .no,[32],(some 32),none⟩,
 ⟨false,[],[1000000007,1000000008],.det 1 (.load 3 [] 0 .nil 4 false),[33],(some 33),none⟩,
 ⟨false,[],[1000000007,1000000008],.call 1 9 [.t 33] .no,[34],(some 34),none⟩,
 ⟨false,[],[1000000007,1000000008],.call 1 7 [.t 32,.t 34] .no,[35],(some 35),none⟩,
 ⟨false,[],[1000000007,1000000008],.det 2 (.copy 35),[30,35],(some 30),none⟩,
 ⟨false,[],[1000000007,1000000008],.det 2 (.ext 30 0 7),[36,30],(some 36),none⟩,
 ⟨false,[],[1000000007,1000000008],.det 2 (.ext 30 7 4),[37,30],(some 37),none⟩,
 ⟨false,[],[1000000007,1000000008],.det 1 (.ext 30 11 1),[38],(some 38),none⟩,
 ⟨false,[],[1000000008],.det 2 (.a (.c Ty1 [kV 0,kV 0,.slice none 0 0,kV 0,.bool false,.slice none 0 0,.slice none 0 0])),[6,1000000007],(some 6),none⟩,
 ⟨false,[],[1000000007],.det 2 (.a (.c Ty3 [kV 0,.bool false,.slice none 0 0,.slice none 0 0])),[7,1000000008],(some 7),none⟩,
 o4 2 [6,36] (.store 6 [] 0 .nil (.t 36)),
 o4 2 [7,37] (.store 7 [] 0 .nil (.t 37)),
 oc 8 38])
 (.seq (.rg [o1 39 (.load 2 [] 0 .nil 7 false),
 o3 40 8 [.t 39],
 o5 (.a (.c Ty1 [kV 0,kV 0,.slice none 0 0,kV 0,.bool false,.slice none 0 0,.slice none 0 0])) 9 1000000010,
 o4 2 [9,40] (.store 9 [] 0 .nil (.t 40))])
 (.seq (.rg [o1 41 (.load 3 [] 0 .nil 4 false),
 o3 42 9 [.t 41],
 o5 (.a (.c Ty4 [kV 0,kV 0,.slice none 0 0,kV 0])) 10 1000000011,
 o4 2 [10,42] (.store 10 [] 0 .nil (.t 42))])
 (.seq (.rg [o1 44 (.load 9 [] 0 .nil 7 true),
 o1 45 (.load 10 [] 0 .nil 4 true),
 o3 46 10 [.t 44,.t 45],
 o5 (.copy 46) 43 46,
 o5 (.ext 43 0 7) 47 43,
 o5 (.ext 43 7 4) 48 43,
 o1 49 (.ext 43 11 1),
 o5 (.a (.c Ty1 [kV 0,kV 0,.slice none 0 0,kV 0,.bool false,.slice none 0 0,.slice none 0 0])) 11 1000000012,
 o5 (.a (.c Ty3 [kV 0,.bool false,.slice none 0 0,.slice none 0 0])) 12 1000000013,
 o4 2 [11,47] (.store 11 [] 0 .nil (.t 47)),
 o4 2 [12,48] (.store 12 [] 0 .nil (.t 48)),
 oc 13 49])
 (.seq (.seq (.join [⟨64,[.b],false⟩] 36892362247512260608 none (.rg [o1 50 (.load 11 [] 0 .nil 7 true),
 o1 51 (.load 6 [] 0 .nil 7 true),
 o3 52 11 [.t 50,.t 51],
 o1 53 (.data .not [.t 52]),
 oc 54 53,
 o2 55 (.load 12 [] 0 .nil 4 true) 4 false,
 o2 56 (.load 7 [] 0 .nil 4 true) 4 false,
 ⟨false,[],[],.call 1 12 [.t 55,.t 56] .no,[57],(some 57),some (4,false)⟩,
 o2 58 (.data .not [.t 57]) 4 false,
 o7 54 (.c (.bool true)) (.t 58) 59,
 oc 60 59,
 o2 61 (.copy 13) 10 false,
 o2 62 (.copy 8) 10 false,
 o2 63 (.data (.bin .neq) [.t 61,.t 62]) 10 false,
 o7 60 (.c (.bool true)) (.t 63) 64]))
 (.cond (.t 64)
 (.seq (.rg [o1 4 (.lit [.b] [.bool false])])
 .ret)
 .skip))
 (.seq (.seq (.rg [o1 65 (.load 9 [] 0 .nil 7 true),
 o1 66 (.load 2 [] 0 .nil 7 false),
 o3 67 8 [.t 66],
 o3 68 11 [.t 65,.t 67],
 o1 69 (.data .not [.t 68])])
 (.cond (.t 69)
 (.seq (.rg [o1 4 (.lit [.b] [.bool false])])
 .ret)
 .skip))
 (.seq (.seq (.rg [o1 70 (.load 10 [] 0 .nil 4 true),
 o1 71 (.load 3 [] 0 .nil 4 false),
 o3 72 9 [.t 71],
 o3 73 13 [.t 70,.t 72],
 o1 74 (.data .not [.t 73])])
 (.cond (.t 74)
 (.seq (.rg [o1 4 (.lit [.b] [.bool false])])
 .ret)
 .skip))
 (.seq (.rg [o1 14 (kL 1)])
 (.seq (.rg [o1 75 (.load 9 [] 0 .nil 7 true),
 oc 76 14,
 ⟨false,[],[],.call 2 14 [.t 75,.t 76] (.mt 9 [] 0 75 0),[77,9,44,65,75],(some 77),none⟩,
 oc 14 77])
 (.seq (.rg [o1 78 (.load 10 [] 0 .nil 4 true),
 oc 79 14,
 ⟨false,[],[],.call 2 15 [.t 78,.t 79] (.mt 10 [] 0 78 0),[80,10,45,70,78],(some 80),none⟩,
 oc 14 80])
 (.seq (.seq (.join [⟨99,[.b],false⟩] 1267648182376590172238353793024 none (.rg [oc 81 14,
 o1 82 (.data (.bin .lss) [.t 81,kD 0]),
 oc 83 82,
 o2 84 (.load 11 [] 0 .nil 7 true) 2 false,
 o2 85 (.load 6 [] 0 .nil 7 true) 2 false,
 ⟨false,[],[],.call 1 11 [.t 84,.t 85] .no,[86],(some 86),some (2,false)⟩,
 o2 87 (.data .not [.t 86]) 2 false,
 o7 83 (.c (.bool true)) (.t 87) 88,
 oc 89 88,
 o2 90 (.load 12 [] 0 .nil 4 true) 8 false,
 o2 91 (.load 7 [] 0 .nil 4 true) 8 false,
 ⟨false,[],[],.call 1 12 [.t 90,.t 91] .no,[92],(some 92),some (8,false)⟩,
 o2 93 (.data .not [.t 92]) 8 false,
 o7 89 (.c (.bool true)) (.t 93) 94,
 oc 95 94,
 o2 96 (.copy 13) 14 false,
 o2 97 (.copy 8) 14 false,
 o2 98 (.data (.bin .neq) [.t 96,.t 97]) 14 false,
 o7 95 (.c (.bool true)) (.t 98) 99]))
 (.cond (.t 99)
 (.seq (.rg [o1 4 (.lit [.b] [.bool false])])
 .ret)
 .skip))
 (.seq (.rg [o1 15 (kL 1)])
 (.seq (.rg [o1 100 (.load 11 [] 0 .nil 7 true),
 oc 101 15,
 ⟨false,[],[],.call 2 14 [.t 100,.t 101] (.mt 11 [] 0 100 0),[102,11,50,100],(some 102),none⟩,
 oc 15 102])
 (.seq (.rg [o1 103 (.load 12 [] 0 .nil 4 true),
 oc 104 15,
 ⟨false,[],[],.call 2 16 [.t 103,.t 104] (.mt 12 [] 0 103 0),[105,12,103],(some 105),none⟩,
 oc 15 105])
 (.seq (.rg [o1 16 (kL 1)])
 (.seq (.rg [o1 106 (.load 11 [] 0 .nil 7 true),
 oc 107 16,
 o3 108 17 [.t 106,.t 107],
 oc 16 108])
 (.seq (.seq (.rg [oc 109 16,
 o1 110 (.data (.bin .lss) [.t 109,kD 0])])
 (.cond (.t 110)
 (.seq (.rg [o1 4 (.lit [.b] [.bool false])])
 .ret)
 .skip))
 (.seq (.rg [o1 111 (.load 12 [] 0 .nil 4 true),
 oc 112 16,
 o3 113 18 [.t 111,.t 112],
 oc 16 113])
 (.seq (.seq (.rg [oc 114 16,
 o1 115 (.data (.bin .lss) [.t 114,kD 0])])
 (.cond (.t 115)
 (.seq (.rg [o1 4 (.lit [.b] [.bool false])])
 .ret)
 .skip))
 (.seq (.seq (.rg [oc 116 16,
 oc 117 15,
 o1 118 (.data (.bin .neq) [.t 116,.t 117])])
 (.cond (.t 118)
 (.seq (.rg [o1 4 (.lit [.b] [.bool false])])
 .ret)
 .skip))
 (.seq (.rg [⟨false,[],[1000000018,1000000019],.det 1 (.load 2 [] 0 .nil 7 false),[120],(some 120),none⟩,
 ⟨false,[],[1000000018,1000000019],.call 1 8 [.t 120] .no,[121],(some 121),none⟩,
 ⟨false,[],[1000000018,1000000019],.det 1 (.load 3 [] 0 .nil 4 false),[122],(some 122),none⟩,
 ⟨false,[],[1000000018,1000000019],.call 1 9 [.t 122] .no,[123],(some 123),none⟩,
 ⟨false,[],[1000000018,1000000019],.call 1 10 [.t 121,.t 123] .no,[124],(some 124),none⟩,
 ⟨false,[],[1000000018,1000000019],.det 2 (.copy 124),[119,124],(some 119),none⟩,
 ⟨false,[],[1000000018,1000000019],.det 2 (.ext 119 0 7),[125,119],(some 125),none⟩,
 ⟨false,[],[1000000018,1000000019],.det 2 (.ext 119 7 4),[126,119],(some 126),none⟩,
 ⟨false,[],[1000000018,1000000019],.det 1 (.ext 119 11 1),[127],(some 127),none⟩,
 ⟨false,[],[1000000019],.det 2 (.a (.c Ty1 [kV 0,kV 0,.slice none 0 0,kV 0,.bool false,.slice none 0 0,.slice none 0 0])),[17,1000000018],(some 17),none⟩,
 ⟨false,[],[1000000018],.det 2 (.a (.c Ty3 [kV 0,.bool false,.slice none 0 0,.slice none 0 0])),[18,1000000019],(some 18),none⟩,
 o4 2 [17,125] (.store 17 [] 0 .nil (.t 125)),
 o4 2 [18,126] (.store 18 [] 0 .nil (.t 126)),
 oc 19 127])
 (.seq (.seq (.join [⟨142,[.b],false⟩] 11150032316898390632304395761716748984778752 none (.rg [o1 128 (.load 17 [] 0 .nil 7 true),
 o1 129 (.load 6 [] 0 .nil 7 true),
 o3 130 11 [.t 128,.t 129],
 o1 131 (.data .not [.t 130]),
 oc 132 131,
 o2 133 (.load 18 [] 0 .nil 4 true) 4 false,
 o2 134 (.load 7 [] 0 .nil 4 true) 4 false,
 ⟨false,[],[],.call 1 12 [.t 133,.t 134] .no,[135],(some 135),some (4,false)⟩,
 o2 136 (.data .not [.t 135]) 4 false,
 o7 132 (.c (.bool true)) (.t 136) 137,
 oc 138 137,
 o2 139 (.copy 19) 10 false,
 o2 140 (.copy 8) 10 false,
 o2 141 (.data (.bin .neq) [.t 139,.t 140]) 10 false,
 o7 138 (.c (.bool true)) (.t 141) 142]))
 (.cond (.t 142)
 (.seq (.rg [o1 4 (.lit [.b] [.bool false])])
 .ret)
 .skip))
 (.seq (.rg [o1 16 (kL 1)])
 (.seq (.rg [o1 143 (.load 11 [] 0 .nil 7 true),
 oc 144 16,
 o3 145 17 [.t 143,.t 144],
 oc 16 145])
 (.seq (.seq (.rg [oc 146 16,
 o1 147 (.data (.bin .lss) [.t 146,kD 0])])
 (.cond (.t 147)
 (.seq (.rg [o1 4 (.lit [.b] [.bool false])])
 .ret)
 .skip))
 (.seq (.rg [o1 148 (.load 12 [] 0 .nil 4 true),
 oc 149 16,
 o3 150 18 [.t 148,.t 149],
 oc 16 150])
 (.seq (.seq (.rg [oc 151 16,
 o1 152 (.data (.bin .lss) [.t 151,kD 0])])
 (.cond (.t 152)
 (.seq (.rg [o1 4 (.lit [.b] [.bool false])])
 .ret)
 .skip))
 (.seq (.seq (.rg [oc 153 16,
 oc 154 15,
 o1 155 (.data (.bin .neq) [.t 153,.t 154])])
 (.cond (.t 155)
 (.seq (.rg [o1 4 (.lit [.b] [.bool false])])
 .ret)
 .skip))
 (.seq (.rg [o1 4 (.lit [.b] [.bool true])])
 .ret)))))))))))))))))))))))))))))))))))
def s_lFnExactObey:Sig:=⟨[.rd true Ct0,.rd true Ct3],(.one false [.d])⟩
def E_lFnExactObey:TEnv:=envOf [(5,p_lszShard),(6,p_lszOrder),(8,p_ltoShard),(9,p_ltoOrder),(7,p_sObey),(10,p_iObey),(11,p_leqShard),(12,p_leqAnswer),(13,p_leqOrder),(14,p_lmarkShard),(15,p_lmarkOrder),(16,p_lmarkAnswer),(17,p_lheldShard),(18,p_lheldAnswer)]
def f_lFnExactObey (n:Nat):(Int × Int × List (Int × Int × Int × Bool) × Int × Bool × List (Int × Int) × List (Int)) × (Int × Int × List (Int × Int) × Int)->Option ((Bool) × Unit):=runFn n E_lFnExactObey c_lFnExactObey [Ty1,Ty4] [.b] [] [4] .no
def g_lFnExactObey:=f_lFnExactObey BIG
def p_lFnExactObey:TSp:=⟨s_lFnExactObey,[Ty1,Ty4],[.b],[],Ou.j .no,g_lFnExactObey⟩
theorem k_lFnExactObey:chkW PG E_lFnExactObey 3 s_lFnExactObey (c_lFnExactObey.ht 156) .no=some (c_lFnExactObey.wc E_lFnExactObey,[4]):=by kernel_rfl
theorem ok_lFnExactObey:p_lFnExactObey.Ok PG 3:=mkOk (env_cons ok_lszShard (env_cons ok_lszOrder (env_cons ok_ltoShard (env_cons ok_ltoOrder (env_cons ok_sObey (env_cons ok_iObey (env_cons ok_leqShard (env_cons ok_leqAnswer (env_cons ok_leqOrder (env_cons ok_lmarkShard (env_cons ok_lmarkOrder (env_cons ok_lmarkAnswer (env_cons ok_lheldShard (env_cons ok_lheldAnswer (env_nil PG))))))))))))))) k_lFnExactObey (by kernel_rfl)
theorem e_lFnExactObey (n) (a0) (a1):f_lFnExactObey n (a0,a1) =
 Option.bind (g_lszShard (a0,(1048576:Int))) fun r0=>
 bif decide (r0.1<(0:Int)) then
 some (true,())
 else Option.bind (g_lszOrder (a1,r0.1)) fun r1=>
 bif decide (r1.1<(0:Int)) then
 some (true,())
 else Option.bind (g_ltoShard a0) fun r2=>
 Option.bind (g_ltoOrder a1) fun r3=>
 Option.bind (g_sObey (r2.1,r3.1)) fun r4=>
 Option.bind (g_ltoShard a0) fun r5=>
 Option.bind (g_ltoOrder a1) fun r6=>
 Option.bind (g_iObey (r5.1,r6.1)) fun r7=>
 Option.bind (Option.bind (g_leqShard ((r7.1.1,r7.1.2.1,r7.1.2.2.1,r7.1.2.2.2.1,r7.1.2.2.2.2.1,r7.1.2.2.2.2.2.1,r7.1.2.2.2.2.2.2.1),(r4.1.1,r4.1.2.1,r4.1.2.2.1,r4.1.2.2.2.1,r4.1.2.2.2.2.1,r4.1.2.2.2.2.2.1,r4.1.2.2.2.2.2.2.1))) fun r8=>
 bif !r8.1 then
 some true
 else Option.bind (g_leqAnswer ((r7.1.2.2.2.2.2.2.2.1,r7.1.2.2.2.2.2.2.2.2.1,r7.1.2.2.2.2.2.2.2.2.2.1,r7.1.2.2.2.2.2.2.2.2.2.2.1),(r4.1.2.2.2.2.2.2.2.1,r4.1.2.2.2.2.2.2.2.2.1,r4.1.2.2.2.2.2.2.2.2.2.1,r4.1.2.2.2.2.2.2.2.2.2.2.1))) fun r9=>
 bif !r9.1 then
 some true
 else some (!decide (r7.1.2.2.2.2.2.2.2.2.2.2.2=r4.1.2.2.2.2.2.2.2.2.2.2.2)):Option (Bool)) fun x10=>
 bif x10 then
 some (false,())
 else Option.bind (g_ltoShard a0) fun r11=>
 Option.bind (g_leqShard (r5.1,r11.1)) fun r12=>
 bif !r12.1 then
 some (false,())
 else Option.bind (g_ltoOrder a1) fun r13=>
 Option.bind (g_leqOrder (r6.1,r13.1)) fun r14=>
 bif !r14.1 then
 some (false,())
 else Option.bind (g_lmarkShard (r5.1,(1:Int))) fun r15=>
 Option.bind (g_lmarkOrder (r6.1,r15.1)) fun r16=>
 Option.bind (bif decide (r16.1<(0:Int)) then
 some true
 else Option.bind (g_leqShard ((r7.1.1,r7.1.2.1,r7.1.2.2.1,r7.1.2.2.2.1,r7.1.2.2.2.2.1,r7.1.2.2.2.2.2.1,r7.1.2.2.2.2.2.2.1),(r4.1.1,r4.1.2.1,r4.1.2.2.1,r4.1.2.2.2.1,r4.1.2.2.2.2.1,r4.1.2.2.2.2.2.1,r4.1.2.2.2.2.2.2.1))) fun r17=>
 bif !r17.1 then
 some true
 else Option.bind (g_leqAnswer ((r7.1.2.2.2.2.2.2.2.1,r7.1.2.2.2.2.2.2.2.2.1,r7.1.2.2.2.2.2.2.2.2.2.1,r7.1.2.2.2.2.2.2.2.2.2.2.1),(r4.1.2.2.2.2.2.2.2.1,r4.1.2.2.2.2.2.2.2.2.1,r4.1.2.2.2.2.2.2.2.2.2.1,r4.1.2.2.2.2.2.2.2.2.2.2.1))) fun r18=>
 bif !r18.1 then
 some true
 else some (!decide (r7.1.2.2.2.2.2.2.2.2.2.2.2=r4.1.2.2.2.2.2.2.2.2.2.2.2)):Option (Bool)) fun x19=>
 bif x19 then
 some (false,())
 else Option.bind (g_lmarkShard ((r7.1.1,r7.1.2.1,r7.1.2.2.1,r7.1.2.2.2.1,r7.1.2.2.2.2.1,r7.1.2.2.2.2.2.1,r7.1.2.2.2.2.2.2.1),(1:Int))) fun r20=>
 Option.bind (g_lmarkAnswer ((r7.1.2.2.2.2.2.2.2.1,r7.1.2.2.2.2.2.2.2.2.1,r7.1.2.2.2.2.2.2.2.2.2.1,r7.1.2.2.2.2.2.2.2.2.2.2.1),r20.1)) fun r21=>
 Option.bind (g_lheldShard (r20.2,(1:Int))) fun r22=>
 bif decide (r22.1<(0:Int)) then
 some (false,())
 else Option.bind (g_lheldAnswer (r21.2,r22.1)) fun r23=>
 bif decide (r23.1<(0:Int)) then
 some (false,())
 else bif !decide (r23.1=r21.1) then
 some (false,())
 else Option.bind (g_ltoShard a0) fun r24=>
 Option.bind (g_ltoOrder a1) fun r25=>
 Option.bind (g_iObey (r24.1,r25.1)) fun r26=>
 Option.bind (Option.bind (g_leqShard ((r26.1.1,r26.1.2.1,r26.1.2.2.1,r26.1.2.2.2.1,r26.1.2.2.2.2.1,r26.1.2.2.2.2.2.1,r26.1.2.2.2.2.2.2.1),(r4.1.1,r4.1.2.1,r4.1.2.2.1,r4.1.2.2.2.1,r4.1.2.2.2.2.1,r4.1.2.2.2.2.2.1,r4.1.2.2.2.2.2.2.1))) fun r27=>
 bif !r27.1 then
 some true
 else Option.bind (g_leqAnswer ((r26.1.2.2.2.2.2.2.2.1,r26.1.2.2.2.2.2.2.2.2.1,r26.1.2.2.2.2.2.2.2.2.2.1,r26.1.2.2.2.2.2.2.2.2.2.2.1),(r4.1.2.2.2.2.2.2.2.1,r4.1.2.2.2.2.2.2.2.2.1,r4.1.2.2.2.2.2.2.2.2.2.1,r4.1.2.2.2.2.2.2.2.2.2.2.1))) fun r28=>
 bif !r28.1 then
 some true
 else some (!decide (r26.1.2.2.2.2.2.2.2.2.2.2.2=r4.1.2.2.2.2.2.2.2.2.2.2.2)):Option (Bool)) fun x29=>
 bif x29 then
 some (false,())
 else Option.bind (g_lheldShard (r20.2,(1:Int))) fun r30=>
 bif decide (r30.1<(0:Int)) then
 some (false,())
 else Option.bind (g_lheldAnswer (r21.2,r30.1)) fun r31=>
 bif decide (r31.1<(0:Int)) then
 some (false,())
 else bif !decide (r31.1=r21.1) then
 some (false,())
 else some (true,()):=by kernel_rfl
end
end Go.Fw
