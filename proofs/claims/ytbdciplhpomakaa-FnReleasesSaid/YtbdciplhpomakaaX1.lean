/- The given functions, as what they compute; each is shown to be what the code does. No conditions. -/
import Derived.Test.YtbdciplhpomakaaX0
set_option linter.unusedVariables false
set_option linter.unusedSimpArgs false
set_option linter.unusedSectionVars false
namespace Go.Fw
noncomputable section
def c_sl10Shard:TC:=
 (.seq (.rg [o5 (.a (.c Ty1 [kV 0,kV 0,.slice none 0 0,kV 0,.bool false,.slice none 0 0,.slice none 0 0])) 4 1000000005])
 (.seq (.rg [o1 14 (.p0),
 ⟨false,[],[],.call 2 36 [.t 0,kO 3] (.mp 0),[15,0],(some 15),none⟩,
 o1 16 (.data (.bin .add) [kD 1,.t 15]),
 o1 17 (.p0),
 ⟨false,[],[],.call 2 93 [.t 0] (.mp 0),[18,0],(some 18),none⟩,
 o3 19 92 [.t 16,.t 18],
 o5 (.copy 19) 13 19,
 o5 (.ext 13 0 7) 20 13,
 o1 21 (.ext 13 7 1),
 o5 (.a (.c Ty1 [kV 0,kV 0,.slice none 0 0,kV 0,.bool false,.slice none 0 0,.slice none 0 0])) 5 1000000006,
 o4 2 [5,20] (.store 5 [] 0 .nil (.t 20)),
 oc 6 21])
 (.seq (.join [⟨0,Ty10,false⟩,⟨5,Ty1,false⟩] 2475880078570760549794062241 none (.seq (.rg [o1 7 (kL 0)])
 (.block 0 (.loop [⟨0,Ty10,false⟩,⟨5,Ty1,false⟩,⟨7,[.i .i64],false⟩] 2475880078570760549794062241
 (.seq (.seq (.rg [oc 22 7,
 o1 23 (.p0),
 oc 24 1,
 o3 25 77 [.t 24],
 ⟨false,[],[],.call 2 36 [.t 0,.t 25] (.mp 0),[26,0],(some 26),none⟩,
 o1 27 (.data (.bin .lss) [.t 22,.t 26])])
 (.cond (.t 27)
 .skip
 (.exit 0)))
 (.seq (.join [⟨0,Ty10,false⟩,⟨5,Ty1,false⟩] 2475880078570760548724514593 none (.block 1 (.seq (.rg [o1 30 (.p0),
 oi 31,
 o1 32 (.idx (.t 31)),
 o1 33 (.load 5 [] 1 (.t 32) 1 false),
 ⟨false,[],[],.call 2 60 [.t 0,.t 33] (.mp 0),[34,0],(some 34),none⟩,
 o5 (.a (.c Ty4 [kV 0,kV 0,.slice none 0 0,kV 0])) 8 1000000009,
 o4 2 [8,34] (.store 8 [] 0 .nil (.t 34))])
 (.seq (.rg [oi 35,
 o1 36 (.idx (.t 35)),
 o1 37 (.load 5 [] 3 (.t 36) 1 false),
 o1 38 (.data (.bin .add) [.t 37,kD 1]),
 oi 39,
 o4 1 [8] (.store 8 [] 0 (.t 39) (.t 38))])
 (.seq (.join [⟨0,Ty10,false⟩,⟨8,Ty4,false⟩] 9444732964639778800385 none (.seq (.join [⟨0,Ty10,false⟩,⟨54,[.b],false⟩] 36027697507336193 none (.rg [oi 40,
 o1 41 (.idx (.t 40)),
 o1 42 (.load 5 [] 2 (.t 41) 1 true),
 o1 43 (.len 42),
 o1 44 (.data (.bin .gtr) [.t 43,kD 0]),
 oc 45 44,
 o2 46 (.idx .nil) 5 true,
 o2 47 (.load 8 [] 1 (.t 46) 1 false) 5 true,
 o2 48 (.data (.bin .eql) [.t 47,kD 2]) 5 true,
 o7 45 (.t 48) (.c (.bool false)) 49,
 oc 50 49,
 o2 51 (.p0) 10 true,
 ⟨false,[],[],.call 2 35 [.t 0,kO 3] (.mp 0),[52,0],(some 52),some (10,true)⟩,
 o2 53 (.data .not [.t 52]) 10 true,
 o7 50 (.t 53) (.c (.bool false)) 54]))
 (.cond (.t 54)
 (.seq (.rg [o1 58 (.p0),
 ⟨false,[],[0,1000000010],.det 1 (.idx .nil),[55],(some 55),none⟩,
 ⟨false,[],[0,1000000010],.det 1 (.idx (.t 55)),[56],(some 56),none⟩,
 ⟨false,[],[0,1000000010],.det 1 (.load 5 [] 2 (.t 56) 1 true),[57],(some 57),none⟩,
 ⟨false,[],[1000000010],.det 1 (.idx .nil),[59],(some 59),none⟩,
 ⟨false,[],[1000000010],.det 1 (.idx (.t 59)),[60],(some 60),none⟩,
 ⟨false,[],[1000000010],.det 1 (.load 5 [] 2 (.t 60) 1 true),[61],(some 61),none⟩,
 ⟨false,[],[1000000010],.det 1 (.len 61),[62],(some 62),none⟩,
 ⟨false,[],[1000000010],.call 2 36 [.t 0,.t 62] (.mp 0),[63,0],(some 63),none⟩,
 ⟨false,[],[1000000010],.det 1 (.index 57 (.t 63)),[64],(some 64),none⟩,
 ⟨false,[],[1000000010],.det 1 (.load 5 [(2,4)] 0 (.t 64) 4 false),[65],(some 65),none⟩,
 ⟨false,[],[0],.det 2 (.a (.c Ty11 [kV 0,kV 0,kV 0,.bool false])),[9,1000000010],(some 9),none⟩,
 o4 1 [9] (.store 9 [] 0 .nil (.t 65))])
 (.rg [oi 66,
 o1 67 (.load 9 [] 0 (.t 66) 1 false),
 oi 68,
 o1 69 (.load 9 [] 1 (.t 68) 1 false),
 o1 70 (.build [.i .i64,.i .i64] [(0,.t 67),(1,.t 69)]),
 o1 71 (.sli [.i .i64,.i .i64] [.t 70]),
 oi 72,
 o4 2 [8,71] (.store 8 [] 2 (.t 72) (.t 71))]))
 .skip)))
 (.seq (.seq (.join [⟨0,Ty10,false⟩,⟨80,[.b],false⟩] 2408406906263519058984961 none (.rg [oi 73,
 o1 74 (.load 8 [] 1 (.t 73) 1 false),
 o1 75 (.data (.bin .eql) [.t 74,kD 3]),
 oc 76 75,
 o2 77 (.p0) 3 true,
 ⟨false,[],[],.call 2 35 [.t 0,kO 3] (.mp 0),[78,0],(some 78),some (3,true)⟩,
 o2 79 (.data .not [.t 78]) 3 true,
 o7 76 (.t 79) (.c (.bool false)) 80]))
 (.cond (.t 80)
 (.exit 1)
 .skip))
 (.seq (.rg [o1 82 (.load 5 [] 0 .nil 7 true),
 o1 83 (.load 8 [] 0 .nil 4 true),
 o3 84 24 [.t 82,.t 83],
 o5 (.copy 84) 81 84,
 o5 (.ext 81 0 7) 85 81,
 o5 (.ext 81 7 4) 86 81,
 o1 87 (.ext 81 11 1),
 o5 (.a (.c Ty1 [kV 0,kV 0,.slice none 0 0,kV 0,.bool false,.slice none 0 0,.slice none 0 0])) 10 1000000011,
 o5 (.a (.c Ty3 [kV 0,.bool false,.slice none 0 0,.slice none 0 0])) 11 1000000012,
 o4 2 [10,85] (.store 10 [] 0 .nil (.t 85)),
 o4 2 [11,86] (.store 11 [] 0 .nil (.t 86)),
 oc 12 87])
 (.seq (.rg [oc 88 12,
 o1 89 (.data (.bin .eql) [.t 88,kD 0])])
 (.cond (.t 89)
 (.rg [o1 90 (.load 10 [] 0 .nil 7 true),
 ⟨false,[90],[],.det 2 (.store 5 [] 0 .nil (.t 90)),[5,90,90,10,42,82],none,none⟩])
 .skip)))))))))
 (.rg [oc 28 7,
 o1 29 (.data (.bin .add) [.t 28,kD 1]),
 oc 7 29])))))))
 (.seq (.rg [o1 91 (.load 5 [] 0 .nil 7 true),
 ⟨false,[91],[],.det 2 (.store 4 [] 0 .nil (.t 91)),[4,91,91,5],none,none⟩])
 .ret))))
def s_sl10Shard:Sig:=⟨[.mp [.sl (.ro []) [.d],.d,.d],.rd false Ct7],(.one true Ct0)⟩
def E_sl10Shard:TEnv:=envOf [(36,p_sl01Below),(93,p_sl09N),(92,p_sShardNew),(77,p_sl08Size),(60,p_sl09Order),(35,p_sl01Once),(24,p_sObey)]
def f_sl10Shard (n:Nat):(List (Int) × Int × Int) × List (Int)->Option ((Int × Int × List (Int × Int × Int × Bool) × Int × Bool × List (Int × Int) × List (Int)) × List (Int) × Int × Int):=runFn n E_sl10Shard c_sl10Shard [Ty10,[.sl [.i .u8]]] Ty1 Ty10 [4] (.mp 0)
def g_sl10Shard:=f_sl10Shard BIG
def p_sl10Shard:TSp:=⟨s_sl10Shard,[Ty10,[.sl [.i .u8]]],Ty1,Ty10,Ou.j (.mp 0),g_sl10Shard⟩
theorem k_sl10Shard:chkW PG E_sl10Shard 59 s_sl10Shard (c_sl10Shard.ht 92) (.mp 0)=some (c_sl10Shard.wc E_sl10Shard,[4]):=by kernel_rfl
theorem ok_sl10Shard:p_sl10Shard.Ok PG 59:=mkOk (env_cons ok_sl01Below (env_cons ok_sl09N (env_cons ok_sShardNew (env_cons ok_sl08Size (env_cons ok_sl09Order (env_cons ok_sl01Once (env_cons ok_sObey (env_nil PG)))))))) k_sl10Shard (by kernel_rfl)
theorem e_sl10Shard (n) (a0) (a1):f_sl10Shard n (a0,a1) =
 Option.bind (g_sl01Below (a0,(3:Int))) fun r0=>
 Option.bind (g_sl09N r0.2) fun r1=>
 Option.bind (g_sShardNew (IntKind.wrap .i64 ((1:Int)+r0.1),r1.1)) fun r2=>
 Option.bind (loopT n (X:=(List (Int) × Int × Int) × (Int × Int × List (Int × Int × Int × Bool) × Int × Bool × List (Int × Int) × List (Int)) × Int) (B:=(List (Int) × Int × Int) × (Int × Int × List (Int × Int × Int × Bool) × Int × Bool × List (Int × Int) × List (Int))) (fun self4 x3=>
 Option.bind (g_sl08Size a1) fun r5=>
 Option.bind (g_sl01Below (x3.1,r5.1)) fun r6=>
 bif decide (x3.2.2<r6.1) then
 Option.bind (Option.bind (g_sl09Order (r6.2,x3.2.1.2.1)) fun r7=>
 Option.bind (Option.bind (bif decide ((0:Int)<(x3.2.1.2.2.1.length:Int)) then
 bif decide (r7.1.2.1=(2:Int)) then
 Option.bind (g_sl01Once (r7.2,(3:Int))) fun r8=>
 some (r8.2,!r8.1)
 else some (r7.2,false)
 else some (r7.2,false):Option ((List (Int) × Int × Int) × Bool)) fun x9=>
 bif x9.2 then
 Option.bind (g_sl01Below (x9.1,(x3.2.1.2.2.1.length:Int))) fun r10=>
 bnd x3.2.1.2.2.1.length r10.1 fun n11=>
 Option.bind x3.2.1.2.2.1[n11]? fun y12=>
 some (r10.2,(IntKind.wrap .i64 (x3.2.1.2.2.2.1+(1:Int)),r7.1.2.1,[(y12.1,y12.2.1)],r7.1.2.2.2))
 else some (x9.1,(IntKind.wrap .i64 (x3.2.1.2.2.2.1+(1:Int)),r7.1.2)):Option ((List (Int) × Int × Int) × (Int × Int × List (Int × Int) × Int))) fun x13=>
 Option.bind (bif decide (x13.2.2.1=(3:Int)) then
 Option.bind (g_sl01Once (x13.1,(3:Int))) fun r14=>
 some (r14.2,!r14.1)
 else some (x13.1,false):Option ((List (Int) × Int × Int) × Bool)) fun x15=>
 bif x15.2 then
 some (x15.1,x3.2.1)
 else Option.bind (g_sObey (x3.2.1,x13.2)) fun r16=>
 bif decide (r16.1.2.2.2.2.2.2.2.2.2.2.2=(0:Int)) then
 some (x15.1,(r16.1.1,r16.1.2.1,r16.1.2.2.1,r16.1.2.2.2.1,r16.1.2.2.2.2.1,r16.1.2.2.2.2.2.1,r16.1.2.2.2.2.2.2.1))
 else some (x15.1,x3.2.1):Option ((List (Int) × Int × Int) × (Int × Int × List (Int × Int × Int × Bool) × Int × Bool × List (Int × Int) × List (Int)))) fun x17=>
 self4 (x17.1,x17.2,IntKind.wrap .i64 (x3.2.2+(1:Int)))
 else some (r6.2,x3.2.1)) (r1.2,(r2.1.1,r2.1.2.1,r2.1.2.2.1,r2.1.2.2.2.1,r2.1.2.2.2.2.1,r2.1.2.2.2.2.2.1,r2.1.2.2.2.2.2.2.1),(0:Int)):Option ((List (Int) × Int × Int) × (Int × Int × List (Int × Int × Int × Bool) × Int × Bool × List (Int × Int) × List (Int)))) fun x18=>
 some (x18.2,x18.1):=by kernel_rfl
def c_sDrawRightShard:TC:=
 (.seq (.rg [o5 (.a (.c Ty1 [kV 0,kV 0,.slice none 0 0,kV 0,.bool false,.slice none 0 0,.slice none 0 0])) 2 1000000003,
 o5 (.a (.c Ty4 [kV 0,kV 0,.slice none 0 0,kV 0])) 3 1000000004])
 (.seq (.rg [oc 8 0,
 o3 9 33 [.t 8],
 o1 4 (.p0)])
 (.seq (.rg [o1 10 (.same 4),
 oc 11 0,
 ⟨false,[],[],.call 2 59 [.t 9,.t 11] (.mp 0),[12,9],(some 12),none⟩,
 o5 (.a (.c Ty1 [kV 0,kV 0,.slice none 0 0,kV 0,.bool false,.slice none 0 0,.slice none 0 0])) 5 1000000006,
 o4 2 [5,12] (.store 5 [] 0 .nil (.t 12))])
 (.seq (.rg [o1 13 (.same 4),
 oi 14,
 o1 15 (.idx (.t 14)),
 o1 16 (.load 5 [] 1 (.t 15) 1 false),
 ⟨false,[],[],.call 2 60 [.t 9,.t 16] (.mp 0),[17,9],(some 17),none⟩,
 o5 (.a (.c Ty4 [kV 0,kV 0,.slice none 0 0,kV 0])) 6 1000000007,
 o4 2 [6,17] (.store 6 [] 0 .nil (.t 17))])
 (.seq (.rg [oi 18,
 o1 19 (.idx (.t 18)),
 o1 20 (.load 5 [] 3 (.t 19) 1 false),
 o1 21 (.data (.bin .add) [.t 20,kD 1]),
 oi 22,
 o4 1 [6] (.store 6 [] 0 (.t 22) (.t 21))])
 (.seq (.join [⟨6,Ty4,false⟩] 2251799805297344 none (.seq (.join [⟨32,[.b],false⟩] 8581545984 none (.rg [oi 23,
 o1 24 (.idx (.t 23)),
 o1 25 (.load 5 [] 2 (.t 24) 1 true),
 o1 26 (.len 25),
 o1 27 (.data (.bin .gtr) [.t 26,kD 0]),
 oc 28 27,
 o2 29 (.idx .nil) 5 true,
 o2 30 (.load 6 [] 1 (.t 29) 1 false) 5 true,
 o2 31 (.data (.bin .eql) [.t 30,kD 2]) 5 true,
 o7 28 (.t 31) (.c (.bool false)) 32]))
 (.cond (.t 32)
 (.seq (.rg [o1 36 (.same 4),
 ⟨false,[],[9,1000000008],.det 1 (.idx .nil),[33],(some 33),none⟩,
 ⟨false,[],[9,1000000008],.det 1 (.idx (.t 33)),[34],(some 34),none⟩,
 ⟨false,[],[9,1000000008],.det 1 (.load 5 [] 2 (.t 34) 1 true),[35],(some 35),none⟩,
 ⟨false,[],[1000000008],.det 1 (.idx .nil),[37],(some 37),none⟩,
 ⟨false,[],[1000000008],.det 1 (.idx (.t 37)),[38],(some 38),none⟩,
 ⟨false,[],[1000000008],.det 1 (.load 5 [] 2 (.t 38) 1 true),[39],(some 39),none⟩,
 ⟨false,[],[1000000008],.det 1 (.len 39),[40],(some 40),none⟩,
 ⟨false,[],[1000000008],.call 2 36 [.t 9,.t 40] (.mp 0),[41,9],(some 41),none⟩,
 ⟨false,[],[1000000008],.det 1 (.index 35 (.t 41)),[42],(some 42),none⟩,
 ⟨false,[],[1000000008],.det 1 (.load 5 [(2,4)] 0 (.t 42) 4 false),[43],(some 43),none⟩,
 ⟨false,[],[9],.det 2 (.a (.c Ty11 [kV 0,kV 0,kV 0,.bool false])),[7,1000000008],(some 7),none⟩,
 o4 1 [7] (.store 7 [] 0 .nil (.t 43))])
 (.rg [oi 44,
 o1 45 (.load 7 [] 0 (.t 44) 1 false),
 oi 46,
 o1 47 (.load 7 [] 1 (.t 46) 1 false),
 o1 48 (.build [.i .i64,.i .i64] [(0,.t 45),(1,.t 47)]),
 o1 49 (.sli [.i .i64,.i .i64] [.t 48]),
 oi 50,
 o4 2 [6,49] (.store 6 [] 2 (.t 50) (.t 49))]))
 .skip)))
 (.seq (.rg [o1 51 (.load 5 [] 0 .nil 7 true),
 ⟨false,[],[2,5,25],.det 1 (.load 6 [] 0 .nil 4 true),[52],(some 52),none⟩,
 ⟨false,[51],[],.det 2 (.store 2 [] 0 .nil (.t 51)),[2,51,51,5,25],none,none⟩,
 ⟨false,[52],[],.det 2 (.store 3 [] 0 .nil (.t 52)),[3,52,52,6],none,none⟩])
 .ret)))))))
def s_sDrawRightShard:Sig:=⟨[.rd false Ct7],(.tup [(true,7),(true,4)] [.d,.d,.sl (.own none) [.d,.d,.d,.d],.d,.d,.sl (.own none) [.d,.d],.sl (.own none) [.d],.d,.d,.sl (.own none) [.d,.d],.d])⟩
def E_sDrawRightShard:TEnv:=envOf [(33,p_sl01New),(59,p_sl10Shard),(60,p_sl09Order),(36,p_sl01Below)]
def f_sDrawRightShard (n:Nat):List (Int)->Option ((Int × Int × List (Int × Int × Int × Bool) × Int × Bool × List (Int × Int) × List (Int) × Int × Int × List (Int × Int) × Int) × Unit):=runFn n E_sDrawRightShard c_sDrawRightShard [[.sl [.i .u8]]] [.i .i64,.i .i64,.sl Ty11,.i .i64,.b,.sl [.i .i64,.i .i64],.sl [.i .i64],.i .i64,.i .i64,.sl [.i .i64,.i .i64],.i .i64] [] [2,3] .no
def g_sDrawRightShard:=f_sDrawRightShard BIG
def p_sDrawRightShard:TSp:=⟨s_sDrawRightShard,[[.sl [.i .u8]]],[.i .i64,.i .i64,.sl Ty11,.i .i64,.b,.sl [.i .i64,.i .i64],.sl [.i .i64],.i .i64,.i .i64,.sl [.i .i64,.i .i64],.i .i64],[],Ou.j .no,g_sDrawRightShard⟩
theorem k_sDrawRightShard:chkW PG E_sDrawRightShard 22 s_sDrawRightShard (c_sDrawRightShard.ht 53) .no=some (c_sDrawRightShard.wc E_sDrawRightShard,[2,3]):=by kernel_rfl
theorem ok_sDrawRightShard:p_sDrawRightShard.Ok PG 22:=mkOk (env_cons ok_sl01New (env_cons ok_sl10Shard (env_cons ok_sl09Order (env_cons ok_sl01Below (env_nil PG))))) k_sDrawRightShard (by kernel_rfl)
theorem e_sDrawRightShard (n) (a0):f_sDrawRightShard n a0 =
 Option.bind (g_sl01New a0) fun r0=>
 Option.bind (g_sl10Shard (r0.1,a0)) fun r1=>
 Option.bind (g_sl09Order (r1.2,r1.1.2.1)) fun r2=>
 Option.bind (Option.bind (bif decide ((0:Int)<(r1.1.2.2.1.length:Int)) then
 some (decide (r2.1.2.1=(2:Int)))
 else some false:Option (Bool)) fun x3=>
 bif x3 then
 Option.bind (g_sl01Below (r2.2,(r1.1.2.2.1.length:Int))) fun r4=>
 bnd r1.1.2.2.1.length r4.1 fun n5=>
 Option.bind r1.1.2.2.1[n5]? fun y6=>
 some (IntKind.wrap .i64 (r1.1.2.2.2.1+(1:Int)),r2.1.2.1,[(y6.1,y6.2.1)],r2.1.2.2.2)
 else some (IntKind.wrap .i64 (r1.1.2.2.2.1+(1:Int)),r2.1.2):Option ((Int × Int × List (Int × Int) × Int))) fun x7=>
 some ((r1.1.1,r1.1.2.1,r1.1.2.2.1,r1.1.2.2.2.1,r1.1.2.2.2.2.1,r1.1.2.2.2.2.2.1,r1.1.2.2.2.2.2.2,x7),()):=by kernel_rfl
def c_sDrawPlaces:TC:=
 (.seq (.rg [o1 2 (.lit [.sl [.i .i64]] [.slice none 0 0])])
 (.seq (.rg [oc 6 0,
 o3 7 33 [.t 6],
 o1 3 (.p0)])
 (.seq (.rg [o1 8 (.same 3),
 ⟨false,[],[],.call 2 75 [.t 7] (.mp 0),[9,7],(some 9),none⟩])
 (.seq (.rg [o1 10 (.sli [.i .i64] []),
 o5 (.copy 10) 4 10])
 (.seq (.join [⟨4,[.sl [.i .i64]],false⟩] 1046704 none (.seq (.rg [o1 5 (kL 0)])
 (.block 0 (.loop [⟨4,[.sl [.i .i64]],false⟩,⟨7,Ty10,false⟩,⟨5,[.i .i64],false⟩] 1046704
 (.seq (.seq (.rg [oc 11 5,
 o1 12 (.data (.bin .lss) [.t 11,kD 12])])
 (.cond (.t 12)
 .skip
 (.exit 0)))
 (.seq (.block 1 (.rg [o5 (.copy 4) 15 4,
 o1 16 (.same 3),
 ⟨false,[],[],.call 2 36 [.t 7,kO 10000] (.mp 0),[17,7],(some 17),none⟩,
 o1 18 (.sli [.i .i64] [.t 17]),
 o5 (.app (some 15) 18) 19 15,
 o5 (.copy 19) 4 19]))
 (.rg [oc 13 5,
 o1 14 (.data (.bin .add) [.t 13,kD 1]),
 oc 5 14])))))))
 (.seq (.rg [o5 (.copy 4) 20 4,
 o5 (.copy 20) 2 20])
 .ret))))))
def s_sDrawPlaces:Sig:=⟨[.rd false Ct7],(.one false Ct7)⟩
def E_sDrawPlaces:TEnv:=envOf [(33,p_sl01New),(75,p_sl01Byte),(36,p_sl01Below)]
def f_sDrawPlaces (n:Nat):List (Int)->Option ((List (Int)) × Unit):=runFn n E_sDrawPlaces c_sDrawPlaces [[.sl [.i .u8]]] [.sl [.i .i64]] [] [2] .no
def g_sDrawPlaces:=f_sDrawPlaces BIG
def p_sDrawPlaces:TSp:=⟨s_sDrawPlaces,[[.sl [.i .u8]]],[.sl [.i .i64]],[],Ou.j .no,g_sDrawPlaces⟩
theorem k_sDrawPlaces:chkW PG E_sDrawPlaces 29 s_sDrawPlaces (c_sDrawPlaces.ht 21) .no=some (c_sDrawPlaces.wc E_sDrawPlaces,[2]):=by kernel_rfl
theorem ok_sDrawPlaces:p_sDrawPlaces.Ok PG 29:=mkOk (env_cons ok_sl01New (env_cons ok_sl01Byte (env_cons ok_sl01Below (env_nil PG)))) k_sDrawPlaces (by kernel_rfl)
theorem e_sDrawPlaces (n) (a0):f_sDrawPlaces n a0 =
 Option.bind (g_sl01New a0) fun r0=>
 Option.bind (g_sl01Byte r0.1) fun r1=>
 Option.bind (loopT n (X:=(List (Int)) × (List (Int) × Int × Int) × Int) (B:=(List (Int))) (fun self3 x2=>
 bif decide (x2.2.2<(12:Int)) then
 Option.bind (g_sl01Below (x2.2.1,(10000:Int))) fun r4=>
 bif decide (x2.1.length+[r4.1].length<=4294967296) then
 self3 (x2.1++[r4.1],r4.2,IntKind.wrap .i64 (x2.2.2+(1:Int)))
 else none
 else some x2.1) ([],r1.2,(0:Int)):Option ((List (Int)))) fun x5=>
 some (x5,()):=by kernel_rfl
def c_iGraphOf:TC:=
 (.seq (.rg [o1 1 (.a (.t 0)),
 o5 (.a (.c Ty9 [kV 0,.slice none 0 0])) 2 1000000003])
 (.seq (.rg [oi 6,
 o1 7 (.load 1 [] 0 (.t 6) 1 false),
 o1 8 (.build Ty9 [(0,.t 7)]),
 o5 (.a (.c Ty9 [kV 0,.slice none 0 0])) 3 1000000004,
 o4 2 [3,8] (.store 3 [] 0 .nil (.t 8))])
 (.seq (.join [⟨3,Ty9,false⟩] 134217256 none (.seq (.rg [oi 9,
 o1 10 (.load 1 [] 1 (.t 9) 1 false),
 o1 11 (.len 10),
 o1 12 (kL 0)])
 (.block 0 (.loop [⟨3,Ty9,false⟩,⟨12,[.i .i64],false⟩] 134213672
 (.seq (.rg [o1 13 (.data (.bin .lss) [.t 12,.t 11])])
 (.seq (.cond (.t 13)
 .skip
 (.exit 0))
 (.seq (.block 1 (.seq (.rg [o1 14 (.index 10 (.t 12)),
 o1 15 (.load 10 [(0,4)] 0 (.t 14) 4 false),
 o5 (.a (.c Ty11 [kV 0,kV 0,kV 0,.bool false])) 5 1000000006,
 o4 1 [5] (.store 5 [] 0 .nil (.t 15))])
 (.rg [oi 16,
 o1 17 (.load 3 [] 1 (.t 16) 1 true),
 oi 18,
 o1 19 (.load 5 [] 0 (.t 18) 1 false),
 oi 20,
 o1 21 (.load 5 [] 1 (.t 20) 1 false),
 o1 22 (.build [.i .i64,.i .i64] [(0,.t 19),(1,.t 21)]),
 o1 23 (.sli [.i .i64,.i .i64] [.t 22]),
 ⟨false,[17],[],.det 2 (.app (some 17) 23),[24,17,17,3],(some 24),none⟩,
 oi 25,
 o4 2 [3,24,17] (.store 3 [] 1 (.t 25) (.t 24))])))
 (.rg [o1 26 (.data (.bin .add) [.t 12,kD 1]),
 oc 12 26]))))))))
 (.seq (.rg [o1 27 (.load 3 [] 0 .nil 2 true),
 ⟨false,[27],[],.det 2 (.store 2 [] 0 .nil (.t 27)),[2,27,27,3],none,none⟩])
 .ret))))
def s_iGraphOf:Sig:=⟨[.rd true Ct4],(.one true Ct5)⟩
def E_iGraphOf:TEnv:=envOf []
def f_iGraphOf (n:Nat):(Int × List (Int × Int × Int × Bool))->Option ((Int × List (Int × Int)) × Unit):=runFn n E_iGraphOf c_iGraphOf [Ty6] Ty9 [] [2] .no
def g_iGraphOf:=f_iGraphOf BIG
def p_iGraphOf:TSp:=⟨s_iGraphOf,[Ty6],Ty9,[],Ou.j .no,g_iGraphOf⟩
theorem k_iGraphOf:chkW PG E_iGraphOf 8 s_iGraphOf (c_iGraphOf.ht 28) .no=some (c_iGraphOf.wc E_iGraphOf,[2]):=by kernel_rfl
theorem ok_iGraphOf:p_iGraphOf.Ok PG 8:=mkOk (env_nil PG) k_iGraphOf (by kernel_rfl)
theorem e_iGraphOf (n) (a0):f_iGraphOf n a0 =
 Option.bind (loopT n (X:=(Int × List (Int × Int)) × Int) (B:=(Int × List (Int × Int))) (fun self1 x0=>
 bif decide (x0.2<(a0.2.length:Int)) then
 bnd a0.2.length x0.2 fun n2=>
 Option.bind a0.2[n2]? fun y3=>
 bif decide (x0.1.2.length+([(y3.1,y3.2.1)]).length<=4294967296) then
 self1 ((x0.1.1,x0.1.2++([(y3.1,y3.2.1)])),IntKind.wrap .i64 (x0.2+(1:Int)))
 else none
 else some x0.1) ((a0.1,[]),(0:Int)):Option ((Int × List (Int × Int)))) fun x4=>
 some (x4,()):=by kernel_rfl
def c_iOwned:TC:=
 (.seq (.rg [o1 1 (.a (.t 0)),
 o1 2 (.lit [.sl [.i .i64,.i .i64]] [.slice none 0 0])])
 (.seq (.rg [oi 3,
 o1 4 (.load 1 [] 1 (.t 3) 2 false),
 o3 5 8 [.t 4],
 o5 (.ext 5 1 1) 6 5,
 o5 (.copy 6) 2 6])
 .ret))
def s_iOwned:Sig:=⟨[.rd true Ct0],(.one false Ct6)⟩
def E_iOwned:TEnv:=envOf [(8,p_iGraphOf)]
def f_iOwned (n:Nat):(Int × Int × List (Int × Int × Int × Bool) × Int × Bool × List (Int × Int) × List (Int))->Option ((List (Int × Int)) × Unit):=runFn n E_iOwned c_iOwned [Ty1] [.sl [.i .i64,.i .i64]] [] [2] .no
def g_iOwned:=f_iOwned BIG
def p_iOwned:TSp:=⟨s_iOwned,[Ty1],[.sl [.i .i64,.i .i64]],[],Ou.j .no,g_iOwned⟩
theorem k_iOwned:chkW PG E_iOwned 30 s_iOwned (c_iOwned.ht 7) .no=some (c_iOwned.wc E_iOwned,[2]):=by kernel_rfl
theorem ok_iOwned:p_iOwned.Ok PG 30:=mkOk (env_cons ok_iGraphOf (env_nil PG)) k_iOwned (by kernel_rfl)
theorem e_iOwned (n) (a0):f_iOwned n a0 =
 Option.bind (g_iGraphOf (a0.2.1,a0.2.2.1)) fun r0=>
 some (r0.1.2,()):=by kernel_rfl
def c_iin:TC:=
 (.seq (.rg [o1 6 (.lit [.b] [.bool false])])
 (.seq (.join [⟨6,[.b],false⟩] 32704 none (.rg [oc 7 0,
 oc 8 1,
 o1 9 (.data (.bin .geq) [.t 7,.t 8]),
 oc 10 9,
 o2 11 (.copy 0) 3 true,
 o2 12 (.copy 2) 3 true,
 o2 13 (.data (.bin .leq) [.t 11,.t 12]) 3 true,
 o7 10 (.t 13) (.c (.bool false)) 14,
 oc 6 14]))
 .ret))
def s_iin:Sig:=⟨[.rd false [.d],.rd false [.d],.rd false [.d]],(.one false [.d])⟩
def E_iin:TEnv:=envOf []
def f_iin (n:Nat):Int × Int × Int->Option ((Bool) × Unit):=runFn n E_iin c_iin [[.i .i64],[.i .i64],[.i .i64]] [.b] [] [6] .no
def g_iin:=f_iin BIG
def p_iin:TSp:=⟨s_iin,[[.i .i64],[.i .i64],[.i .i64]],[.b],[],Ou.j .no,g_iin⟩
theorem k_iin:chkW PG E_iin 52 s_iin (c_iin.ht 15) .no=some (c_iin.wc E_iin,[6]):=by kernel_rfl
theorem ok_iin:p_iin.Ok PG 52:=mkOk (env_nil PG) k_iin (by kernel_rfl)
theorem e_iin (n) (a0) (a1) (a2):f_iin n (a0,a1,a2) =
 Option.bind (bif decide (a1<=a0) then
 some (decide (a0<=a2))
 else some false:Option (Bool)) fun x0=>
 some (x0,()):=by kernel_rfl
def c_iEdgeOk:TC:=
 (.seq (.rg [o1 3 (.a (.t 1)),
 o1 4 (.lit [.b] [.bool false])])
 (.seq (.join [⟨4,[.b],false⟩] 268435440 none (.rg [oc 5 0,
 o3 6 52 [.t 5,kO 1,kO 12],
 oc 7 6,
 o2 8 (.idx .nil) 2 true,
 o2 9 (.load 3 [] 0 (.t 8) 1 false) 2 true,
 o2 10 (.copy 0) 2 true,
 o2 11 (.data (.bin .sub) [.t 10,kD 1]) 2 true,
 ⟨false,[],[],.call 1 52 [.t 9,kO 0,.t 11] .no,[12],(some 12),some (2,true)⟩,
 o7 7 (.t 12) (.c (.bool false)) 13,
 oc 14 13,
 o2 15 (.idx .nil) 9 true,
 o2 16 (.load 3 [] 1 (.t 15) 1 false) 9 true,
 o2 17 (.copy 0) 9 true,
 o2 18 (.data (.bin .sub) [.t 17,kD 1]) 9 true,
 ⟨false,[],[],.call 1 52 [.t 16,kO 0,.t 18] .no,[19],(some 19),some (9,true)⟩,
 o7 14 (.t 19) (.c (.bool false)) 20,
 oc 21 20,
 o2 22 (.idx .nil) 16 true,
 o2 23 (.load 3 [] 0 (.t 22) 1 false) 16 true,
 o2 24 (.idx .nil) 16 true,
 o2 25 (.load 3 [] 1 (.t 24) 1 false) 16 true,
 o2 26 (.data (.bin .lss) [.t 23,.t 25]) 16 true,
 o7 21 (.t 26) (.c (.bool false)) 27,
 oc 4 27]))
 .ret))
def s_iEdgeOk:Sig:=⟨[.rd false [.d],.rd true [.d,.d]],(.one false [.d])⟩
def E_iEdgeOk:TEnv:=envOf [(52,p_iin)]
def f_iEdgeOk (n:Nat):Int × (Int × Int)->Option ((Bool) × Unit):=runFn n E_iEdgeOk c_iEdgeOk [[.i .i64],[.i .i64,.i .i64]] [.b] [] [4] .no
def g_iEdgeOk:=f_iEdgeOk BIG
def p_iEdgeOk:TSp:=⟨s_iEdgeOk,[[.i .i64],[.i .i64,.i .i64]],[.b],[],Ou.j .no,g_iEdgeOk⟩
theorem k_iEdgeOk:chkW PG E_iEdgeOk 81 s_iEdgeOk (c_iEdgeOk.ht 28) .no=some (c_iEdgeOk.wc E_iEdgeOk,[4]):=by kernel_rfl
theorem ok_iEdgeOk:p_iEdgeOk.Ok PG 81:=mkOk (env_cons ok_iin (env_nil PG)) k_iEdgeOk (by kernel_rfl)
theorem e_iEdgeOk (n) (a0) (a1):f_iEdgeOk n (a0,a1) =
 Option.bind (Option.bind (g_iin (a0,(1:Int),(12:Int))) fun r0=>
 bif r0.1 then
 Option.bind (g_iin (a1.1,(0:Int),IntKind.wrap .i64 (a0-(1:Int)))) fun r1=>
 bif r1.1 then
 Option.bind (g_iin (a1.2,(0:Int),IntKind.wrap .i64 (a0-(1:Int)))) fun r2=>
 bif r2.1 then
 some (decide (a1.1<a1.2))
 else some false
 else some false
 else some false:Option (Bool)) fun x3=>
 some (x3,()):=by kernel_rfl
def c_iahead:TC:=
 (.seq (.rg [o1 2 (.a (.t 0)),
 o1 3 (.a (.t 1)),
 o1 4 (.lit [.b] [.bool false])])
 (.seq (.join [⟨4,[.b],false⟩] 16777200 none (.rg [oi 5,
 o1 6 (.load 2 [] 0 (.t 5) 1 false),
 oi 7,
 o1 8 (.load 3 [] 0 (.t 7) 1 false),
 o1 9 (.data (.bin .lss) [.t 6,.t 8]),
 oc 10 9,
 o2 11 (.idx .nil) 5 false,
 o2 12 (.load 2 [] 0 (.t 11) 1 false) 5 false,
 o2 13 (.idx .nil) 5 false,
 o2 14 (.load 3 [] 0 (.t 13) 1 false) 5 false,
 o2 15 (.data (.bin .eql) [.t 12,.t 14]) 5 false,
 o2 16 (.copy 15) 5 false,
 o2 17 (.idx .nil) 11 true,
 o2 18 (.load 2 [] 1 (.t 17) 1 false) 11 true,
 o2 19 (.idx .nil) 11 true,
 o2 20 (.load 3 [] 1 (.t 19) 1 false) 11 true,
 o2 21 (.data (.bin .lss) [.t 18,.t 20]) 11 true,
 ⟨false,[],[],.pick 16 (.t 21) (.c (.bool false)),[22],(some 22),some (5,false)⟩,
 o7 10 (.c (.bool true)) (.t 22) 23,
 oc 4 23]))
 .ret))
def s_iahead:Sig:=⟨[.rd true [.d,.d],.rd true [.d,.d]],(.one false [.d])⟩
def E_iahead:TEnv:=envOf []
def f_iahead (n:Nat):(Int × Int) × (Int × Int)->Option ((Bool) × Unit):=runFn n E_iahead c_iahead [[.i .i64,.i .i64],[.i .i64,.i .i64]] [.b] [] [4] .no
def g_iahead:=f_iahead BIG
def p_iahead:TSp:=⟨s_iahead,[[.i .i64,.i .i64],[.i .i64,.i .i64]],[.b],[],Ou.j .no,g_iahead⟩
theorem k_iahead:chkW PG E_iahead 45 s_iahead (c_iahead.ht 24) .no=some (c_iahead.wc E_iahead,[4]):=by kernel_rfl
theorem ok_iahead:p_iahead.Ok PG 45:=mkOk (env_nil PG) k_iahead (by kernel_rfl)
theorem e_iahead (n) (a0) (a1):f_iahead n (a0,a1) =
 Option.bind (bif decide (a0.1<a1.1) then
 some true
 else bif decide (a0.1=a1.1) then
 some (decide (a0.2<a1.2))
 else some false:Option (Bool)) fun x0=>
 some (x0,()):=by kernel_rfl
def c_iedgesOk:TC:=
 (.seq (.rg [o1 4 (.lit [.b] [.bool false])])
 (.seq (.join [] 8589934576 (some [⟨4,[.b],false⟩]) (.seq (.rg [oc 7 1,
 o1 8 (.len 7),
 o1 9 (kL 0)])
 (.block 0 (.loop [⟨9,[.i .i64],false⟩] 8589934192
 (.seq (.rg [o1 10 (.data (.bin .lss) [.t 9,.t 8])])
 (.seq (.cond (.t 10)
 .skip
 (.exit 0))
 (.seq (.join [] 4294965360 (some [⟨4,[.b],false⟩]) (.block 1 (.seq (.rg [oc 11 9,
 o1 12 (.index 7 (.t 9)),
 o1 13 (.load 7 [(0,2)] 0 (.t 12) 2 false),
 o5 (.a (.c [.i .i64,.i .i64] [kV 0,kV 0])) 6 1000000007,
 oc 5 11,
 o4 1 [6] (.store 6 [] 0 .nil (.t 13))])
 (.seq (.join [⟨31,[.b],false⟩] 4294950912 none (.rg [oc 14 0,
 o1 15 (.load 6 [] 0 .nil 2 false),
 o3 16 81 [.t 14,.t 15],
 o1 17 (.data .not [.t 16]),
 oc 18 17,
 o2 19 (.copy 5) 4 false,
 o2 20 (.data (.bin .gtr) [.t 19,kD 0]) 4 false,
 o2 21 (.copy 20) 4 false,
 o2 22 (.copy 1) 7 true,
 o2 23 (.copy 5) 7 true,
 o2 24 (.data (.bin .sub) [.t 23,kD 1]) 7 true,
 o2 25 (.index 22 (.t 24)) 7 true,
 o2 26 (.load 22 [(0,2)] 0 (.t 25) 2 false) 7 true,
 o2 27 (.load 6 [] 0 .nil 2 false) 7 true,
 ⟨false,[],[],.call 1 45 [.t 26,.t 27] .no,[28],(some 28),some (7,true)⟩,
 o2 29 (.data .not [.t 28]) 7 true,
 ⟨false,[],[],.pick 21 (.t 29) (.c (.bool false)),[30],(some 30),some (4,false)⟩,
 o7 18 (.c (.bool true)) (.t 30) 31]))
 (.cond (.t 31)
 (.seq (.rg [o1 4 (.lit [.b] [.bool false])])
 .ret)
 .skip)))))
 (.rg [o1 32 (.data (.bin .add) [.t 9,kD 1]),
 oc 9 32]))))))))
 (.seq (.rg [oc 33 1,
 o1 34 (.len 33),
 o1 35 (.data (.bin .leq) [.t 34,kD 66]),
 oc 4 35])
 .ret)))
def s_iedgesOk:Sig:=⟨[.rd false [.d],.rd false Ct6],(.one false [.d])⟩
def E_iedgesOk:TEnv:=envOf [(81,p_iEdgeOk),(45,p_iahead)]
def f_iedgesOk (n:Nat):Int × (List (Int × Int))->Option ((Bool) × Unit):=runFn n E_iedgesOk c_iedgesOk [[.i .i64],[.sl [.i .i64,.i .i64]]] [.b] [] [4] .no
def g_iedgesOk:=f_iedgesOk BIG
def p_iedgesOk:TSp:=⟨s_iedgesOk,[[.i .i64],[.sl [.i .i64,.i .i64]]],[.b],[],Ou.j .no,g_iedgesOk⟩
theorem k_iedgesOk:chkW PG E_iedgesOk 87 s_iedgesOk (c_iedgesOk.ht 36) .no=some (c_iedgesOk.wc E_iedgesOk,[4]):=by kernel_rfl
theorem ok_iedgesOk:p_iedgesOk.Ok PG 87:=mkOk (env_cons ok_iEdgeOk (env_cons ok_iahead (env_nil PG))) k_iedgesOk (by kernel_rfl)
theorem e_iedgesOk (n) (a0) (a1):f_iedgesOk n (a0,a1) =
 Option.bind (loopT n (X:=Int) (B:=(Unit) ⊕ (Bool)) (fun self1 x0=>
  bif decide (x0<(a1.length:Int)) then
   Option.bind (bnd a1.length x0 fun n2=>
    Option.bind a1[n2]? fun y3=>
    Option.bind (Option.bind (g_iEdgeOk (a0,y3)) fun r4=>
     bif !r4.1 then
      some true
     else bif decide ((0:Int)<x0) then
      bnd a1.length (IntKind.wrap .i64 (x0-(1:Int))) fun n5=>
      Option.bind a1[n5]? fun y6=>
      Option.bind (g_iahead (y6,y3)) fun r7=>
      some !r7.1
     else some false:Option (Bool)) fun x8=>
    bif x8 then
     some (Sum.inr false)
    else some (Sum.inl ()):Option ((Unit) ⊕ (Bool))) fun y=>match y with
   | .inl x9=>
    self1 (IntKind.wrap .i64 (x0+(1:Int)))
   | .inr x9=>
    some (Sum.inr x9)
  else some (Sum.inl ())) (0:Int):Option ((Unit) ⊕ (Bool))) fun y=>match y with
 | .inl x10=>
  some (decide ((a1.length:Int)<=(66:Int)),())
 | .inr x10=>
  some (x10,()):=by kernel_rfl
def c_iGraphOk:TC:=
 (.seq (.rg [o1 1 (.a (.t 0)),
 o1 2 (.lit [.b] [.bool false])])
 (.seq (.join [⟨2,[.b],false⟩] 8188 none (.rg [oi 3,
 o1 4 (.load 1 [] 0 (.t 3) 1 false),
 o3 5 52 [.t 4,kO 1,kO 12],
 oc 6 5,
 o2 7 (.idx .nil) 3 true,
 o2 8 (.load 1 [] 0 (.t 7) 1 false) 3 true,
 o2 9 (.idx .nil) 3 true,
 o2 10 (.load 1 [] 1 (.t 9) 1 false) 3 true,
 ⟨false,[],[],.call 1 87 [.t 8,.t 10] .no,[11],(some 11),some (3,true)⟩,
 o7 6 (.t 11) (.c (.bool false)) 12,
 oc 2 12]))
 .ret))
def s_iGraphOk:Sig:=⟨[.rd true Ct5],(.one false [.d])⟩
def E_iGraphOk:TEnv:=envOf [(52,p_iin),(87,p_iedgesOk)]
def f_iGraphOk (n:Nat):(Int × List (Int × Int))->Option ((Bool) × Unit):=runFn n E_iGraphOk c_iGraphOk [Ty9] [.b] [] [2] .no
def g_iGraphOk:=f_iGraphOk BIG
def p_iGraphOk:TSp:=⟨s_iGraphOk,[Ty9],[.b],[],Ou.j .no,g_iGraphOk⟩
theorem k_iGraphOk:chkW PG E_iGraphOk 49 s_iGraphOk (c_iGraphOk.ht 13) .no=some (c_iGraphOk.wc E_iGraphOk,[2]):=by kernel_rfl
theorem ok_iGraphOk:p_iGraphOk.Ok PG 49:=mkOk (env_cons ok_iin (env_cons ok_iedgesOk (env_nil PG))) k_iGraphOk (by kernel_rfl)
theorem e_iGraphOk (n) (a0):f_iGraphOk n a0 =
 Option.bind (Option.bind (g_iin (a0.1,(1:Int),(12:Int))) fun r0=>
 bif r0.1 then
 Option.bind (g_iedgesOk (a0.1,a0.2)) fun r1=>
 some r1.1
 else some false:Option (Bool)) fun x2=>
 some (x2,()):=by kernel_rfl
def c_itreeEdges:TC:=
 (.seq (.rg [o1 1 (.a (.t 0)),
 o1 2 (.lit [.sl [.i .i64,.i .i64]] [.slice none 0 0])])
 (.seq (.rg [o1 3 (.lit [.sl [.i .i64,.i .i64]] [.slice none 0 0])])
 (.seq (.join [⟨3,[.sl [.i .i64,.i .i64]],false⟩] 16777192 none (.seq (.rg [oi 6,
 o1 7 (.load 1 [] 1 (.t 6) 1 false),
 o1 8 (.len 7),
 o1 9 (kL 0)])
 (.block 0 (.loop [⟨3,[.sl [.i .i64,.i .i64]],false⟩,⟨9,[.i .i64],false⟩] 16776744
 (.seq (.rg [o1 10 (.data (.bin .lss) [.t 9,.t 8])])
 (.seq (.cond (.t 10)
 .skip
 (.exit 0))
 (.seq (.join [⟨3,[.sl [.i .i64,.i .i64]],false⟩] 8386600 none (.block 1 (.seq (.rg [o1 11 (.index 7 (.t 9)),
 o1 12 (.load 7 [(0,4)] 0 (.t 11) 4 false),
 o5 (.a (.c Ty11 [kV 0,kV 0,kV 0,.bool false])) 5 1000000006,
 o4 1 [5] (.store 5 [] 0 .nil (.t 12))])
 (.seq (.rg [oi 13,
 o1 14 (.load 5 [] 3 (.t 13) 1 false)])
 (.cond (.t 14)
 (.rg [o5 (.copy 3) 15 3,
 oi 16,
 o1 17 (.load 5 [] 0 (.t 16) 1 false),
 oi 18,
 o1 19 (.load 5 [] 1 (.t 18) 1 false),
 o1 20 (.build [.i .i64,.i .i64] [(0,.t 17),(1,.t 19)]),
 o1 21 (.sli [.i .i64,.i .i64] [.t 20]),
 o5 (.app (some 15) 21) 22 15,
 o5 (.copy 22) 3 22])
 .skip)))))
 (.rg [o1 23 (.data (.bin .add) [.t 9,kD 1]),
 oc 9 23]))))))))
 (.seq (.rg [o5 (.copy 3) 24 3,
 o5 (.copy 24) 2 24])
 .ret))))
def s_itreeEdges:Sig:=⟨[.rd true Ct4],(.one false Ct6)⟩
def E_itreeEdges:TEnv:=envOf []
def f_itreeEdges (n:Nat):(Int × List (Int × Int × Int × Bool))->Option ((List (Int × Int)) × Unit):=runFn n E_itreeEdges c_itreeEdges [Ty6] [.sl [.i .i64,.i .i64]] [] [2] .no
def g_itreeEdges:=f_itreeEdges BIG
def p_itreeEdges:TSp:=⟨s_itreeEdges,[Ty6],[.sl [.i .i64,.i .i64]],[],Ou.j .no,g_itreeEdges⟩
theorem k_itreeEdges:chkW PG E_itreeEdges 51 s_itreeEdges (c_itreeEdges.ht 25) .no=some (c_itreeEdges.wc E_itreeEdges,[2]):=by kernel_rfl
theorem ok_itreeEdges:p_itreeEdges.Ok PG 51:=mkOk (env_nil PG) k_itreeEdges (by kernel_rfl)
theorem e_itreeEdges (n) (a0):f_itreeEdges n a0 =
 Option.bind (loopT n (X:=(List (Int × Int)) × Int) (B:=(List (Int × Int))) (fun self1 x0=>
 bif decide (x0.2<(a0.2.length:Int)) then
 Option.bind (bnd a0.2.length x0.2 fun n2=>
 Option.bind a0.2[n2]? fun y3=>
 bif y3.2.2.2 then
 bif decide (x0.1.length+([(y3.1,y3.2.1)]).length<=4294967296) then
 some (x0.1++([(y3.1,y3.2.1)]))
 else none
 else some x0.1:Option ((List (Int × Int)))) fun x4=>
 self1 (x4,IntKind.wrap .i64 (x0.2+(1:Int)))
 else some x0.1) ([],(0:Int)):Option ((List (Int × Int)))) fun x5=>
 some (x5,()):=by kernel_rfl
def c_ifirst:TC:=
 (.seq (.rg [o1 2 (.lit [.sl [.i .i64]] [.slice none 0 0])])
 (.seq (.rg [o1 3 (.lit [.sl [.i .i64]] [.slice none 0 0])])
 (.seq (.join [⟨3,[.sl [.i .i64]],false⟩] 16376 none (.seq (.rg [oc 5 0,
 o1 6 (kL 0)])
 (.block 0 (.loop [⟨3,[.sl [.i .i64]],false⟩,⟨6,[.i .i64],false⟩] 16344
 (.seq (.rg [o1 7 (.data (.bin .lss) [.t 6,.t 5])])
 (.seq (.cond (.t 7)
 .skip
 (.exit 0))
 (.seq (.block 1 (.seq (.rg [oc 8 6,
 oc 4 8])
 (.rg [o5 (.copy 3) 9 3,
 oc 10 4,
 o1 11 (.sli [.i .i64] [.t 10]),
 o5 (.app (some 9) 11) 12 9,
 o5 (.copy 12) 3 12])))
 (.rg [o1 13 (.data (.bin .add) [.t 6,kD 1]),
 oc 6 13]))))))))
 (.seq (.rg [o5 (.copy 3) 14 3,
 o5 (.copy 14) 2 14])
 .ret))))
def s_ifirst:Sig:=⟨[.rd false [.d]],(.one false Ct7)⟩
def E_ifirst:TEnv:=envOf []
def f_ifirst (n:Nat):Int->Option ((List (Int)) × Unit):=runFn n E_ifirst c_ifirst [[.i .i64]] [.sl [.i .i64]] [] [2] .no
def g_ifirst:=f_ifirst BIG
def p_ifirst:TSp:=⟨s_ifirst,[[.i .i64]],[.sl [.i .i64]],[],Ou.j .no,g_ifirst⟩
theorem k_ifirst:chkW PG E_ifirst 83 s_ifirst (c_ifirst.ht 15) .no=some (c_ifirst.wc E_ifirst,[2]):=by kernel_rfl
theorem ok_ifirst:p_ifirst.Ok PG 83:=mkOk (env_nil PG) k_ifirst (by kernel_rfl)
theorem e_ifirst (n) (a0):f_ifirst n a0 =
 Option.bind (loopT n (X:=(List (Int)) × Int) (B:=(List (Int))) (fun self1 x0=>
 bif decide (x0.2<a0) then
 bif decide (x0.1.length+[x0.2].length<=4294967296) then
 self1 (x0.1++[x0.2],IntKind.wrap .i64 (x0.2+(1:Int)))
 else none
 else some x0.1) ([],(0:Int)):Option ((List (Int)))) fun x2=>
 some (x2,()):=by kernel_rfl
def c_iunion:TC:=
 (.seq (.rg [o1 6 (.lit [.b] [.bool false])])
 (.seq (.rg [o6 10 0,
 oc 11 1,
 o6 14 0,
 oc 15 2,
 o1 12 (.index 10 (.t 11)),
 o1 13 (.load 0 [(0,1)] 0 (.t 12) 1 false),
 o1 16 (.index 14 (.t 15)),
 o1 17 (.load 0 [(0,1)] 0 (.t 16) 1 false),
 oc 7 13,
 oc 8 17])
 (.seq (.seq (.rg [oc 18 7,
 oc 19 8,
 o1 20 (.data (.bin .eql) [.t 18,.t 19])])
 (.cond (.t 20)
 (.seq (.rg [o1 6 (.lit [.b] [.bool false])])
 .ret)
 .skip))
 (.seq (.join [⟨0,[.sl [.i .i64]],false⟩] 2199021158913 none (.seq (.rg [o6 21 0,
 o1 22 (.len 21),
 o1 23 (kL 0)])
 (.block 0 (.loop [⟨0,[.sl [.i .i64]],false⟩,⟨23,[.i .i64],false⟩] 2199016982017
 (.seq (.rg [o1 24 (.data (.bin .lss) [.t 23,.t 22])])
 (.seq (.cond (.t 24)
 .skip
 (.exit 0))
 (.seq (.join [⟨0,[.sl [.i .i64]],false⟩] 1099478073857 none (.block 1 (.seq (.rg [oc 25 23,
 oc 9 25])
 (.seq (.rg [o6 26 0,
 oc 27 9,
 o1 28 (.index 26 (.t 27)),
 o1 29 (.load 0 [(0,1)] 0 (.t 28) 1 false),
 oc 30 7,
 oc 31 8,
 o1 32 (.data .max [.t 30,.t 31]),
 o1 33 (.data (.bin .eql) [.t 29,.t 32])])
 (.cond (.t 33)
 (.rg [o6 34 0,
 oc 35 9,
 oc 36 7,
 oc 37 8,
 o1 38 (.data .min [.t 36,.t 37]),
 o1 39 (.index 34 (.t 35)),
 o4 1 [0,26,34] (.store 0 [(0,1)] 0 (.t 39) (.t 38))])
 .skip)))))
 (.rg [o1 40 (.data (.bin .add) [.t 23,kD 1]),
 oc 23 40]))))))))
 (.seq (.rg [o1 6 (.lit [.b] [.bool true])])
 .ret)))))
def s_iunion:Sig:=⟨[.mt false Ct7,.rd false [.d],.rd false [.d]],(.one false [.d])⟩
def E_iunion:TEnv:=envOf []
def f_iunion (n:Nat):List (Int) × Int × Int->Option ((Bool) × List (Int)):=runFn n E_iunion c_iunion [[.sl [.i .i64]],[.i .i64],[.i .i64]] [.b] [.sl [.i .i64]] [6] (.mt 0 0 0)
def g_iunion:=f_iunion BIG
def p_iunion:TSp:=⟨s_iunion,[[.sl [.i .i64]],[.i .i64],[.i .i64]],[.b],[.sl [.i .i64]],Ou.j (.mt 0 0 0),g_iunion⟩
theorem k_iunion:chkW PG E_iunion 85 s_iunion (c_iunion.ht 41) (.mt 0 0 0)=some (c_iunion.wc E_iunion,[6]):=by kernel_rfl
theorem ok_iunion:p_iunion.Ok PG 85:=mkOk (env_nil PG) k_iunion (by kernel_rfl)
theorem e_iunion (n) (a0) (a1) (a2):f_iunion n (a0,a1,a2) =
 bnd a0.length a1 fun n0=>
 Option.bind a0[n0]? fun y1=>
 bnd a0.length a2 fun n2=>
 Option.bind a0[n2]? fun y3=>
 bif decide (y1=y3) then
 some (false,a0)
 else Option.bind (loopT n (X:=(List (Int)) × Int) (B:=(List (Int))) (fun self5 x4=>
 bif decide (x4.2<(a0.length:Int)) then
 Option.bind (bnd x4.1.length x4.2 fun n6=>
 Option.bind x4.1[n6]? fun y7=>
 bif decide (y7=(if y3 > y1 then y3 else y1)) then
 bnd x4.1.length x4.2 fun n8=>
 Option.bind x4.1[n8]? fun y9=>
 some (x4.1.set n8 (if y3<y1 then y3 else y1))
 else some x4.1:Option ((List (Int)))) fun x10=>
 self5 (x10,IntKind.wrap .i64 (x4.2+(1:Int)))
 else some x4.1) (a0,(0:Int)):Option ((List (Int)))) fun x11=>
 some (true,x11):=by kernel_rfl
def c_irings:TC:=
 (.seq (.rg [o1 4 (.lit [.b] [.bool false])])
 (.seq (.rg [oc 8 0,
 o3 9 83 [.t 8],
 o5 (.copy 9) 5 9])
 (.seq (.join [] 16776368 (some [⟨4,[.b],false⟩]) (.seq (.rg [oc 10 1,
 o1 11 (.len 10),
 o1 12 (kL 0)])
 (.block 0 (.loop [⟨5,[.sl [.i .i64]],false⟩,⟨12,[.i .i64],false⟩] 16773296
 (.seq (.rg [o1 13 (.data (.bin .lss) [.t 12,.t 11])])
 (.seq (.cond (.t 13)
 .skip
 (.exit 0))
 (.seq (.block 1 (.seq (.rg [o1 14 (.index 10 (.t 12)),
 o1 15 (.load 10 [(0,2)] 0 (.t 14) 2 false),
 o5 (.a (.c [.i .i64,.i .i64] [kV 0,kV 0])) 7 1000000008,
 o4 1 [7] (.store 7 [] 0 .nil (.t 15))])
 (.seq (.rg [o6 16 5,
 oi 17,
 o1 18 (.load 7 [] 0 (.t 17) 1 false),
 oi 19,
 o1 20 (.load 7 [] 1 (.t 19) 1 false),
 ⟨false,[],[],.call 2 85 [.t 16,.t 18,.t 20] (.mt 5 [] 0 16 0),[21,5,16],(some 21),none⟩,
 o1 22 (.data .not [.t 21])])
 (.cond (.t 22)
 (.seq (.rg [o1 4 (.lit [.b] [.bool true])])
 .ret)
 .skip))))
 (.rg [o1 23 (.data (.bin .add) [.t 12,kD 1]),
 oc 12 23]))))))))
 (.seq (.rg [o1 4 (.lit [.b] [.bool false])])
 .ret))))
def s_irings:Sig:=⟨[.rd false [.d],.rd false Ct6],(.one false [.d])⟩
def E_irings:TEnv:=envOf [(83,p_ifirst),(85,p_iunion)]
def f_irings (n:Nat):Int × (List (Int × Int))->Option ((Bool) × Unit):=runFn n E_irings c_irings [[.i .i64],[.sl [.i .i64,.i .i64]]] [.b] [] [4] .no
def g_irings:=f_irings BIG
def p_irings:TSp:=⟨s_irings,[[.i .i64],[.sl [.i .i64,.i .i64]]],[.b],[],Ou.j .no,g_irings⟩
theorem k_irings:chkW PG E_irings 50 s_irings (c_irings.ht 24) .no=some (c_irings.wc E_irings,[4]):=by kernel_rfl
theorem ok_irings:p_irings.Ok PG 50:=mkOk (env_cons ok_ifirst (env_cons ok_iunion (env_nil PG))) k_irings (by kernel_rfl)
theorem e_irings (n) (a0) (a1):f_irings n (a0,a1) =
 Option.bind (g_ifirst a0) fun r0=>
 Option.bind (loopT n (X:=(List (Int)) × Int) (B:=(Unit) ⊕ (Bool)) (fun self2 x1=>
  bif decide (x1.2<(a1.length:Int)) then
   bnd a1.length x1.2 fun n3=>
   Option.bind a1[n3]? fun y4=>
   Option.bind (g_iunion (x1.1,y4.1,y4.2)) fun r5=>
   bif !r5.1 then
    some (Sum.inr true)
   else self2 (r5.2,IntKind.wrap .i64 (x1.2+(1:Int)))
  else some (Sum.inl ())) (r0.1,(0:Int)):Option ((Unit) ⊕ (Bool))) fun y=>match y with
 | .inl x6=>
  some (false,())
 | .inr x6=>
  some (x6,()):=by kernel_rfl
def c_iforest:TC:=
 (.seq (.rg [o1 2 (.a (.t 0)),
 o1 4 (.lit [.sl [.i .i64,.i .i64]] [.slice none 0 0])])
 (.seq (.rg [o1 5 (.lit [.sl [.i .i64,.i .i64]] [.slice none 0 0])])
 (.seq (.join [⟨5,[.sl [.i .i64,.i .i64]],false⟩] 4294967200 none (.seq (.rg [oi 8,
 o1 9 (.load 2 [] 1 (.t 8) 1 false),
 o1 10 (.len 9),
 o1 11 (kL 0)])
 (.block 0 (.loop [⟨5,[.sl [.i .i64,.i .i64]],false⟩,⟨11,[.i .i64],false⟩] 4294965408
 (.seq (.rg [o1 12 (.data (.bin .lss) [.t 11,.t 10])])
 (.seq (.cond (.t 12)
 .skip
 (.exit 0))
 (.seq (.join [⟨5,[.sl [.i .i64,.i .i64]],false⟩] 2147475616 none (.block 1 (.seq (.rg [o1 13 (.index 9 (.t 11)),
 o1 14 (.load 9 [(0,4)] 0 (.t 13) 4 false),
 o5 (.a (.c Ty11 [kV 0,kV 0,kV 0,.bool false])) 7 1000000008,
 o4 1 [7] (.store 7 [] 0 .nil (.t 14))])
 (.seq (.join [⟨22,[.b],false⟩] 8355840 none (.rg [oi 15,
 o1 16 (.load 7 [] 3 (.t 15) 1 false),
 oc 17 16,
 o2 18 (.idx .nil) 2 true,
 o2 19 (.load 7 [] 2 (.t 18) 1 false) 2 true,
 o2 20 (.copy 1) 2 true,
 o2 21 (.data (.bin .geq) [.t 19,.t 20]) 2 true,
 o7 17 (.t 21) (.c (.bool false)) 22]))
 (.cond (.t 22)
 (.rg [o5 (.copy 5) 23 5,
 oi 24,
 o1 25 (.load 7 [] 0 (.t 24) 1 false),
 oi 26,
 o1 27 (.load 7 [] 1 (.t 26) 1 false),
 o1 28 (.build [.i .i64,.i .i64] [(0,.t 25),(1,.t 27)]),
 o1 29 (.sli [.i .i64,.i .i64] [.t 28]),
 o5 (.app (some 23) 29) 30 23,
 o5 (.copy 30) 5 30])
 .skip)))))
 (.rg [o1 31 (.data (.bin .add) [.t 11,kD 1]),
 oc 11 31]))))))))
 (.seq (.rg [o5 (.copy 5) 32 5,
 o5 (.copy 32) 4 32])
 .ret))))
def s_iforest:Sig:=⟨[.rd true Ct4,.rd false [.d]],(.one false Ct6)⟩
def E_iforest:TEnv:=envOf []
def f_iforest (n:Nat):(Int × List (Int × Int × Int × Bool)) × Int->Option ((List (Int × Int)) × Unit):=runFn n E_iforest c_iforest [Ty6,[.i .i64]] [.sl [.i .i64,.i .i64]] [] [4] .no
def g_iforest:=f_iforest BIG
def p_iforest:TSp:=⟨s_iforest,[Ty6,[.i .i64]],[.sl [.i .i64,.i .i64]],[],Ou.j .no,g_iforest⟩
theorem k_iforest:chkW PG E_iforest 84 s_iforest (c_iforest.ht 33) .no=some (c_iforest.wc E_iforest,[4]):=by kernel_rfl
theorem ok_iforest:p_iforest.Ok PG 84:=mkOk (env_nil PG) k_iforest (by kernel_rfl)
theorem e_iforest (n) (a0) (a1):f_iforest n (a0,a1) =
 Option.bind (loopT n (X:=(List (Int × Int)) × Int) (B:=(List (Int × Int))) (fun self1 x0=>
 bif decide (x0.2<(a0.2.length:Int)) then
 Option.bind (bnd a0.2.length x0.2 fun n2=>
 Option.bind a0.2[n2]? fun y3=>
 Option.bind (bif y3.2.2.2 then
 some (decide (a1<=y3.2.2.1))
 else some false:Option (Bool)) fun x4=>
 bif x4 then
 bif decide (x0.1.length+([(y3.1,y3.2.1)]).length<=4294967296) then
 some (x0.1++([(y3.1,y3.2.1)]))
 else none
 else some x0.1:Option ((List (Int × Int)))) fun x5=>
 self1 (x5,IntKind.wrap .i64 (x0.2+(1:Int)))
 else some x0.1) ([],(0:Int)):Option ((List (Int × Int)))) fun x6=>
 some (x6,()):=by kernel_rfl
def c_ilabelsAt:TC:=
 (.seq (.rg [o1 2 (.a (.t 0)),
 o1 4 (.lit [.sl [.i .i64]] [.slice none 0 0])])
 (.seq (.rg [oi 8,
 o1 9 (.load 2 [] 0 (.t 8) 1 false),
 o3 10 83 [.t 9],
 o5 (.copy 10) 5 10])
 (.seq (.join [⟨5,[.sl [.i .i64]],false⟩] 67106976 none (.seq (.rg [o1 11 (.load 2 [] 0 .nil 2 false),
 oc 12 1,
 o3 13 84 [.t 11,.t 12],
 o1 14 (.len 13),
 o1 15 (kL 0)])
 (.block 0 (.loop [⟨5,[.sl [.i .i64]],false⟩,⟨15,[.i .i64],false⟩] 67076256
 (.seq (.rg [o1 16 (.data (.bin .lss) [.t 15,.t 14])])
 (.seq (.cond (.t 16)
 .skip
 (.exit 0))
 (.seq (.block 1 (.seq (.rg [o1 17 (.index 13 (.t 15)),
 o1 18 (.load 13 [(0,2)] 0 (.t 17) 2 false),
 o5 (.a (.c [.i .i64,.i .i64] [kV 0,kV 0])) 7 1000000008,
 o4 1 [7] (.store 7 [] 0 .nil (.t 18))])
 (.rg [o6 19 5,
 oi 20,
 o1 21 (.load 7 [] 0 (.t 20) 1 false),
 oi 22,
 o1 23 (.load 7 [] 1 (.t 22) 1 false),
 ⟨false,[],[],.call 2 85 [.t 19,.t 21,.t 23] (.mt 5 [] 0 19 0),[24,5,19],(some 24),none⟩])))
 (.rg [o1 25 (.data (.bin .add) [.t 15,kD 1]),
 oc 15 25]))))))))
 (.seq (.rg [o5 (.copy 5) 26 5,
 o5 (.copy 26) 4 26])
 .ret))))
def s_ilabelsAt:Sig:=⟨[.rd true Ct4,.rd false [.d]],(.one false Ct7)⟩
def E_ilabelsAt:TEnv:=envOf [(83,p_ifirst),(84,p_iforest),(85,p_iunion)]
def f_ilabelsAt (n:Nat):(Int × List (Int × Int × Int × Bool)) × Int->Option ((List (Int)) × Unit):=runFn n E_ilabelsAt c_ilabelsAt [Ty6,[.i .i64]] [.sl [.i .i64]] [] [4] .no
def g_ilabelsAt:=f_ilabelsAt BIG
def p_ilabelsAt:TSp:=⟨s_ilabelsAt,[Ty6,[.i .i64]],[.sl [.i .i64]],[],Ou.j .no,g_ilabelsAt⟩
theorem k_ilabelsAt:chkW PG E_ilabelsAt 44 s_ilabelsAt (c_ilabelsAt.ht 27) .no=some (c_ilabelsAt.wc E_ilabelsAt,[4]):=by kernel_rfl
theorem ok_ilabelsAt:p_ilabelsAt.Ok PG 44:=mkOk (env_cons ok_ifirst (env_cons ok_iforest (env_cons ok_iunion (env_nil PG)))) k_ilabelsAt (by kernel_rfl)
theorem e_ilabelsAt (n) (a0) (a1):f_ilabelsAt n (a0,a1) =
 Option.bind (g_ifirst a0.1) fun r0=>
 Option.bind (Option.bind (g_iforest (a0,a1)) fun r1=>
 loopT n (X:=(List (Int)) × Int) (B:=(List (Int))) (fun self3 x2=>
 bif decide (x2.2<(r1.1.length:Int)) then
 bnd r1.1.length x2.2 fun n4=>
 Option.bind r1.1[n4]? fun y5=>
 Option.bind (g_iunion (x2.1,y5.1,y5.2)) fun r6=>
 self3 (r6.2,IntKind.wrap .i64 (x2.2+(1:Int)))
 else some x2.1) (r0.1,(0:Int)):Option ((List (Int)))) fun x7=>
 some (x7,()):=by kernel_rfl
def c_isizes:TC:=
 (.seq (.rg [o1 4 (kL 0)])
 (.seq (.rg [o1 5 (kL 0)])
 (.seq (.join [⟨5,[.i .i64],false⟩] 1048480 none (.seq (.rg [oc 8 0,
 o1 9 (.len 8),
 o1 10 (kL 0)])
 (.block 0 (.loop [⟨5,[.i .i64],false⟩,⟨10,[.i .i64],false⟩] 1047712
 (.seq (.rg [o1 11 (.data (.bin .lss) [.t 10,.t 9])])
 (.seq (.cond (.t 11)
 .skip
 (.exit 0))
 (.seq (.join [⟨5,[.i .i64],false⟩] 520352 none (.block 1 (.seq (.rg [o1 12 (.index 8 (.t 10)),
 o1 13 (.load 8 [(0,1)] 0 (.t 12) 1 false),
 oc 7 13])
 (.seq (.rg [oc 14 7,
 oc 15 1,
 o1 16 (.data (.bin .eql) [.t 14,.t 15])])
 (.cond (.t 16)
 (.rg [oc 17 5,
 o1 18 (.data (.bin .add) [.t 17,kD 1]),
 oc 5 18])
 .skip)))))
 (.rg [o1 19 (.data (.bin .add) [.t 10,kD 1]),
 oc 10 19]))))))))
 (.seq (.rg [oc 20 5,
 oc 4 20])
 .ret))))
def s_isizes:Sig:=⟨[.rd false Ct7,.rd false [.d]],(.one false [.d])⟩
def E_isizes:TEnv:=envOf []
def f_isizes (n:Nat):List (Int) × Int->Option ((Int) × Unit):=runFn n E_isizes c_isizes [[.sl [.i .i64]],[.i .i64]] [.i .i64] [] [4] .no
def g_isizes:=f_isizes BIG
def p_isizes:TSp:=⟨s_isizes,[[.sl [.i .i64]],[.i .i64]],[.i .i64],[],Ou.j .no,g_isizes⟩
theorem k_isizes:chkW PG E_isizes 79 s_isizes (c_isizes.ht 21) .no=some (c_isizes.wc E_isizes,[4]):=by kernel_rfl
theorem ok_isizes:p_isizes.Ok PG 79:=mkOk (env_nil PG) k_isizes (by kernel_rfl)
theorem e_isizes (n) (a0) (a1):f_isizes n (a0,a1) =
 Option.bind (loopT n (X:=Int × Int) (B:=Int) (fun self1 x0=>
 bif decide (x0.2<(a0.length:Int)) then
 Option.bind (bnd a0.length x0.2 fun n2=>
 Option.bind a0[n2]? fun y3=>
 bif decide (y3=a1) then
 some (IntKind.wrap .i64 (x0.1+(1:Int)))
 else some x0.1:Option (Int)) fun x4=>
 self1 (x4,IntKind.wrap .i64 (x0.2+(1:Int)))
 else some x0.1) ((0:Int),(0:Int)):Option (Int)) fun x5=>
 some (x5,()):=by kernel_rfl
def c_ilevelOk:TC:=
 (.seq (.rg [o1 2 (.a (.t 0)),
 o1 4 (.lit [.b] [.bool false])])
 (.seq (.rg [o1 8 (.load 2 [] 0 .nil 2 false),
 oc 9 1,
 o3 10 44 [.t 8,.t 9],
 o5 (.copy 10) 5 10])
 (.seq (.join [] 4294965392 (some [⟨4,[.b],false⟩]) (.seq (.rg [o1 11 (.load 2 [] 0 .nil 2 false),
 oc 12 1,
 o3 13 84 [.t 11,.t 12],
 o1 14 (.len 13),
 o1 15 (kL 0)])
 (.block 0 (.loop [⟨15,[.i .i64],false⟩] 4294934672
 (.seq (.rg [o1 16 (.data (.bin .lss) [.t 15,.t 14])])
 (.seq (.cond (.t 16)
 .skip
 (.exit 0))
 (.seq (.block 1 (.seq (.rg [o1 17 (.index 13 (.t 15)),
 o1 18 (.load 13 [(0,2)] 0 (.t 17) 2 false),
 o5 (.a (.c [.i .i64,.i .i64] [kV 0,kV 0])) 7 1000000008,
 o4 1 [7] (.store 7 [] 0 .nil (.t 18))])
 (.seq (.rg [o6 19 5,
 o6 20 5,
 oc 28 1,
 oi 21,
 o1 22 (.load 7 [] 0 (.t 21) 1 false),
 o1 23 (.index 20 (.t 22)),
 o1 24 (.load 5 [(0,1)] 0 (.t 23) 1 false),
 o3 25 79 [.t 19,.t 24],
 oi 26,
 o1 27 (.load 2 [] 0 (.t 26) 1 false),
 o1 29 (.data (.bin .shr) [.t 27,.t 28]),
 o1 30 (.data (.bin .gtr) [.t 25,.t 29])])
 (.cond (.t 30)
 (.seq (.rg [o1 4 (.lit [.b] [.bool false])])
 .ret)
 .skip))))
 (.rg [o1 31 (.data (.bin .add) [.t 15,kD 1]),
 oc 15 31]))))))))
 (.seq (.rg [o1 4 (.lit [.b] [.bool true])])
 .ret))))
def s_ilevelOk:Sig:=⟨[.rd true Ct4,.rd false [.d]],(.one false [.d])⟩
def E_ilevelOk:TEnv:=envOf [(44,p_ilabelsAt),(84,p_iforest),(79,p_isizes)]
def f_ilevelOk (n:Nat):(Int × List (Int × Int × Int × Bool)) × Int->Option ((Bool) × Unit):=runFn n E_ilevelOk c_ilevelOk [Ty6,[.i .i64]] [.b] [] [4] .no
def g_ilevelOk:=f_ilevelOk BIG
def p_ilevelOk:TSp:=⟨s_ilevelOk,[Ty6,[.i .i64]],[.b],[],Ou.j .no,g_ilevelOk⟩
theorem k_ilevelOk:chkW PG E_ilevelOk 53 s_ilevelOk (c_ilevelOk.ht 32) .no=some (c_ilevelOk.wc E_ilevelOk,[4]):=by kernel_rfl
theorem ok_ilevelOk:p_ilevelOk.Ok PG 53:=mkOk (env_cons ok_ilabelsAt (env_cons ok_iforest (env_cons ok_isizes (env_nil PG)))) k_ilevelOk (by kernel_rfl)
theorem e_ilevelOk (n) (a0) (a1):f_ilevelOk n (a0,a1) =
 Option.bind (g_ilabelsAt (a0,a1)) fun r0=>
 Option.bind (Option.bind (g_iforest (a0,a1)) fun r1=>
  loopT n (X:=Int) (B:=(Unit) ⊕ (Bool)) (fun self3 x2=>
   bif decide (x2<(r1.1.length:Int)) then
    bnd r1.1.length x2 fun n4=>
    Option.bind r1.1[n4]? fun y5=>
    bnd r0.1.length y5.1 fun n6=>
    Option.bind r0.1[n6]? fun y7=>
    Option.bind (g_isizes (r0.1,y7)) fun r8=>
    bif decide (a1<0) then
     none
    else bif decide ((Int.fdiv a0.1 (2 ^ (Nat.min (Int.toNat a1) (IntKind.bits .i64))))<r8.1) then
     some (Sum.inr false)
    else self3 (IntKind.wrap .i64 (x2+(1:Int)))
   else some (Sum.inl ())) (0:Int):Option ((Unit) ⊕ (Bool))) fun y=>match y with
 | .inl x9=>
  some (true,())
 | .inr x9=>
  some (x9,()):=by kernel_rfl
def c_iWebOk:TC:=
 (.seq (.rg [o1 1 (.a (.t 0)),
 o1 2 (.lit [.b] [.bool false])])
 (.seq (.seq (.join [⟨17,[.b],false⟩] 262016 none (.rg [o1 7 (.load 1 [] 0 .nil 2 false),
 o3 8 8 [.t 7],
 o3 9 49 [.t 8],
 o1 10 (.data .not [.t 9]),
 oc 11 10,
 o2 12 (.idx .nil) 4 false,
 o2 13 (.load 1 [] 0 (.t 12) 1 false) 4 false,
 o2 14 (.load 1 [] 0 .nil 2 false) 4 false,
 ⟨false,[],[],.call 1 51 [.t 14] .no,[15],(some 15),some (4,false)⟩,
 ⟨false,[],[],.call 1 50 [.t 13,.t 15] .no,[16],(some 16),some (4,false)⟩,
 o7 11 (.c (.bool true)) (.t 16) 17]))
 (.cond (.t 17)
 (.seq (.rg [o1 2 (.lit [.b] [.bool false])])
 .ret)
 .skip))
 (.seq (.join [] 1125899906580532 (some [⟨2,[.b],false⟩]) (.seq (.rg [oi 18,
 o1 19 (.load 1 [] 1 (.t 18) 1 false),
 o1 20 (.len 19),
 o1 21 (kL 0)])
 (.block 0 (.loop [⟨21,[.i .i64],false⟩] 1125899904745524
 (.seq (.rg [o1 22 (.data (.bin .lss) [.t 21,.t 20])])
 (.seq (.cond (.t 22)
 .skip
 (.exit 0))
 (.seq (.join [] 562949945032756 (some [⟨2,[.b],false⟩]) (.block 1 (.seq (.rg [o1 23 (.index 19 (.t 21)),
 o1 24 (.load 19 [(0,4)] 0 (.t 23) 4 false),
 o5 (.a (.c Ty11 [kV 0,kV 0,kV 0,.bool false])) 4 1000000005,
 o4 1 [4] (.store 4 [] 0 .nil (.t 24))])
 (.seq (.seq (.rg [oi 25,
 o1 26 (.load 4 [] 2 (.t 25) 1 false),
 o3 27 52 [.t 26,kO 0,kO 4],
 o1 28 (.data .not [.t 27])])
 (.cond (.t 28)
 (.seq (.rg [o1 2 (.lit [.b] [.bool false])])
 .ret)
 .skip))
 (.seq (.rg [o1 29 (.load 1 [] 0 .nil 2 false),
 oi 30,
 o1 31 (.load 4 [] 2 (.t 30) 1 false),
 o3 32 44 [.t 29,.t 31],
 o5 (.copy 32) 5 32])
 (.seq (.join [⟨48,[.b],false⟩] 562941363486720 none (.rg [oi 33,
 o1 34 (.load 4 [] 3 (.t 33) 1 false),
 o1 35 (.data .not [.t 34]),
 oc 36 35,
 ⟨true,[],[],.det 1 (.copy 5),[37],(some 37),some (3,true)⟩,
 o2 38 (.idx .nil) 3 true,
 o2 39 (.load 4 [] 0 (.t 38) 1 false) 3 true,
 o2 40 (.index 37 (.t 39)) 3 true,
 o2 41 (.load 5 [(0,1)] 0 (.t 40) 1 false) 3 true,
 ⟨true,[],[],.det 1 (.copy 5),[42],(some 42),some (3,true)⟩,
 o2 43 (.idx .nil) 3 true,
 o2 44 (.load 4 [] 1 (.t 43) 1 false) 3 true,
 o2 45 (.index 42 (.t 44)) 3 true,
 o2 46 (.load 5 [(0,1)] 0 (.t 45) 1 false) 3 true,
 o2 47 (.data (.bin .neq) [.t 41,.t 46]) 3 true,
 o7 36 (.t 47) (.c (.bool false)) 48]))
 (.cond (.t 48)
 (.seq (.rg [o1 2 (.lit [.b] [.bool false])])
 .ret)
 .skip)))))))
 (.rg [o1 49 (.data (.bin .add) [.t 21,kD 1]),
 oc 21 49]))))))))
 (.seq (.join [] 287104476244869188 (some [⟨2,[.b],false⟩]) (.seq (.rg [o1 6 (kL 1)])
 (.block 2 (.loop [⟨6,[.i .i64],false⟩] 287104476244869188
 (.seq (.seq (.rg [oc 50 6,
 o1 51 (.data (.bin .leq) [.t 50,kD 4])])
 (.cond (.t 51)
 .skip
 (.exit 2)))
 (.seq (.block 3 (.seq (.rg [o1 54 (.load 1 [] 0 .nil 2 false),
 oc 55 6,
 o3 56 53 [.t 54,.t 55],
 o1 57 (.data .not [.t 56])])
 (.cond (.t 57)
 (.seq (.rg [o1 2 (.lit [.b] [.bool false])])
 .ret)
 .skip)))
 (.rg [oc 52 6,
 o1 53 (.data (.bin .add) [.t 52,kD 1]),
 oc 6 53])))))))
 (.seq (.rg [o1 2 (.lit [.b] [.bool true])])
 .ret)))))
def s_iWebOk:Sig:=⟨[.rd true Ct4],(.one false [.d])⟩
def E_iWebOk:TEnv:=envOf [(8,p_iGraphOf),(49,p_iGraphOk),(51,p_itreeEdges),(50,p_irings),(52,p_iin),(44,p_ilabelsAt),(53,p_ilevelOk)]
def f_iWebOk (n:Nat):(Int × List (Int × Int × Int × Bool))->Option ((Bool) × Unit):=runFn n E_iWebOk c_iWebOk [Ty6] [.b] [] [2] .no
def g_iWebOk:=f_iWebOk BIG
def p_iWebOk:TSp:=⟨s_iWebOk,[Ty6],[.b],[],Ou.j .no,g_iWebOk⟩
theorem k_iWebOk:chkW PG E_iWebOk 14 s_iWebOk (c_iWebOk.ht 58) .no=some (c_iWebOk.wc E_iWebOk,[2]):=by kernel_rfl
theorem ok_iWebOk:p_iWebOk.Ok PG 14:=mkOk (env_cons ok_iGraphOf (env_cons ok_iGraphOk (env_cons ok_itreeEdges (env_cons ok_irings (env_cons ok_iin (env_cons ok_ilabelsAt (env_cons ok_ilevelOk (env_nil PG)))))))) k_iWebOk (by kernel_rfl)
theorem e_iWebOk (n) (a0):f_iWebOk n a0 =
 Option.bind (Option.bind (g_iGraphOf a0) fun r0=>
  Option.bind (g_iGraphOk r0.1) fun r1=>
  bif !r1.1 then
   some true
  else Option.bind (g_itreeEdges a0) fun r2=>
  Option.bind (g_irings (a0.1,r2.1)) fun r3=>
  some r3.1:Option (Bool)) fun x4=>
 bif x4 then
  some (false,())
 else Option.bind (loopT n (X:=Int) (B:=(Unit) ⊕ (Bool)) (fun self6 x5=>
  bif decide (x5<(a0.2.length:Int)) then
   Option.bind (bnd a0.2.length x5 fun n7=>
    Option.bind a0.2[n7]? fun y8=>
    Option.bind (g_iin (y8.2.2.1,(0:Int),(4:Int))) fun r9=>
    bif !r9.1 then
     some (Sum.inr false)
    else Option.bind (g_ilabelsAt (a0,y8.2.2.1)) fun r10=>
    Option.bind (bif !y8.2.2.2 then
     bnd r10.1.length y8.1 fun n11=>
     Option.bind r10.1[n11]? fun y12=>
     bnd r10.1.length y8.2.1 fun n13=>
     Option.bind r10.1[n13]? fun y14=>
     some (!decide (y12=y14))
     else some false:Option (Bool)) fun x15=>
    bif x15 then
     some (Sum.inr false)
    else some (Sum.inl ()):Option ((Unit) ⊕ (Bool))) fun y=>match y with
   | .inl x16=>
    self6 (IntKind.wrap .i64 (x5+(1:Int)))
   | .inr x16=>
    some (Sum.inr x16)
  else some (Sum.inl ())) (0:Int):Option ((Unit) ⊕ (Bool))) fun y=>match y with
 | .inl x17=>
  Option.bind (loopT n (X:=Int) (B:=(Unit) ⊕ (Bool)) (fun self19 x18=>
   bif decide (x18<=(4:Int)) then
    Option.bind (g_ilevelOk (a0,x18)) fun r20=>
    bif !r20.1 then
     some (Sum.inr false)
    else self19 (IntKind.wrap .i64 (x18+(1:Int)))
   else some (Sum.inl ())) (1:Int):Option ((Unit) ⊕ (Bool))) fun y=>match y with
  | .inl x21=>
   some (true,())
  | .inr x21=>
   some (x21,())
 | .inr x17=>
  some (x17,()):=by kernel_rfl
def c_inoAnswer:TC:=
 (.seq (.rg [o1 1 (.a (.t 0)),
 o1 2 (.lit [.b] [.bool false])])
 (.seq (.join [⟨2,[.b],false⟩] 8388604 none (.rg [oi 3,
 o1 4 (.load 1 [] 0 (.t 3) 1 false),
 o1 5 (.data (.bin .eql) [.t 4,kD 0]),
 oc 6 5,
 o2 7 (.idx .nil) 3 true,
 o2 8 (.load 1 [] 1 (.t 7) 1 false) 3 true,
 o2 9 (.data .not [.t 8]) 3 true,
 o7 6 (.t 9) (.c (.bool false)) 10,
 oc 11 10,
 o2 12 (.idx .nil) 8 true,
 o2 13 (.load 1 [] 2 (.t 12) 1 false) 8 true,
 o2 14 (.len 13) 8 true,
 o2 15 (.data (.bin .eql) [.t 14,kD 0]) 8 true,
 o7 11 (.t 15) (.c (.bool false)) 16,
 oc 17 16,
 o2 18 (.idx .nil) 14 true,
 o2 19 (.load 1 [] 3 (.t 18) 1 false) 14 true,
 o2 20 (.len 19) 14 true,
 o2 21 (.data (.bin .eql) [.t 20,kD 0]) 14 true,
 o7 17 (.t 21) (.c (.bool false)) 22,
 oc 2 22]))
 .ret))
def s_inoAnswer:Sig:=⟨[.rd true Ct1],(.one false [.d])⟩
def E_inoAnswer:TEnv:=envOf []
def f_inoAnswer (n:Nat):(Int × Bool × List (Int × Int) × List (Int))->Option ((Bool) × Unit):=runFn n E_inoAnswer c_inoAnswer [Ty3] [.b] [] [2] .no
def g_inoAnswer:=f_inoAnswer BIG
def p_inoAnswer:TSp:=⟨s_inoAnswer,[Ty3],[.b],[],Ou.j .no,g_inoAnswer⟩
theorem k_inoAnswer:chkW PG E_inoAnswer 72 s_inoAnswer (c_inoAnswer.ht 23) .no=some (c_inoAnswer.wc E_inoAnswer,[2]):=by kernel_rfl
theorem ok_inoAnswer:p_inoAnswer.Ok PG 72:=mkOk (env_nil PG) k_inoAnswer (by kernel_rfl)
theorem e_inoAnswer (n) (a0):f_inoAnswer n a0 =
 Option.bind (bif decide (a0.1=(0:Int)) then
 bif !a0.2.1 then
 bif decide ((a0.2.2.1.length:Int)=(0:Int)) then
 some (decide ((a0.2.2.2.length:Int)=(0:Int)))
 else some false
 else some false
 else some false:Option (Bool)) fun x0=>
 some (x0,()):=by kernel_rfl
def c_ilabelsOk:TC:=
 (.seq (.rg [o1 4 (.lit [.b] [.bool false])])
 (.seq (.seq (.rg [oc 7 1,
 o1 8 (.len 7),
 oc 9 0,
 o1 10 (.data (.bin .neq) [.t 8,.t 9])])
 (.cond (.t 10)
 (.seq (.rg [o1 4 (.lit [.b] [.bool false])])
 .ret)
 .skip))
 (.seq (.join [] 2147481712 (some [⟨4,[.b],false⟩]) (.seq (.rg [oc 11 1,
 o1 12 (.len 11),
 o1 13 (kL 0)])
 (.block 0 (.loop [⟨13,[.i .i64],false⟩] 2147475568
 (.seq (.rg [o1 14 (.data (.bin .lss) [.t 13,.t 12])])
 (.seq (.cond (.t 14)
 .skip
 (.exit 0))
 (.seq (.join [] 1073709168 (some [⟨4,[.b],false⟩]) (.block 1 (.seq (.rg [oc 15 13,
 o1 16 (.index 11 (.t 13)),
 o1 17 (.load 11 [(0,1)] 0 (.t 16) 1 false),
 oc 5 15,
 oc 6 17])
 (.seq (.join [⟨29,[.b],false⟩] 1073479680 none (.rg [oc 18 6,
 oc 19 5,
 o3 20 52 [.t 18,kO 0,.t 19],
 o1 21 (.data .not [.t 20]),
 oc 22 21,
 o2 23 (.copy 1) 4 false,
 o2 24 (.copy 6) 4 false,
 o2 25 (.index 23 (.t 24)) 4 false,
 o2 26 (.load 23 [(0,1)] 0 (.t 25) 1 false) 4 false,
 o2 27 (.copy 6) 4 false,
 o2 28 (.data (.bin .neq) [.t 26,.t 27]) 4 false,
 o7 22 (.c (.bool true)) (.t 28) 29]))
 (.cond (.t 29)
 (.seq (.rg [o1 4 (.lit [.b] [.bool false])])
 .ret)
 .skip)))))
 (.rg [o1 30 (.data (.bin .add) [.t 13,kD 1]),
 oc 13 30]))))))))
 (.seq (.rg [o1 4 (.lit [.b] [.bool true])])
 .ret))))
def s_ilabelsOk:Sig:=⟨[.rd false [.d],.rd false Ct7],(.one false [.d])⟩
def E_ilabelsOk:TEnv:=envOf [(52,p_iin)]
def f_ilabelsOk (n:Nat):Int × List (Int)->Option ((Bool) × Unit):=runFn n E_ilabelsOk c_ilabelsOk [[.i .i64],[.sl [.i .i64]]] [.b] [] [4] .no
def g_ilabelsOk:=f_ilabelsOk BIG
def p_ilabelsOk:TSp:=⟨s_ilabelsOk,[[.i .i64],[.sl [.i .i64]]],[.b],[],Ou.j .no,g_ilabelsOk⟩
theorem k_ilabelsOk:chkW PG E_ilabelsOk 102 s_ilabelsOk (c_ilabelsOk.ht 31) .no=some (c_ilabelsOk.wc E_ilabelsOk,[4]):=by kernel_rfl
theorem ok_ilabelsOk:p_ilabelsOk.Ok PG 102:=mkOk (env_cons ok_iin (env_nil PG)) k_ilabelsOk (by kernel_rfl)
theorem e_ilabelsOk (n) (a0) (a1):f_ilabelsOk n (a0,a1) =
 bif !decide ((a1.length:Int)=a0) then
  some (false,())
 else Option.bind (loopT n (X:=Int) (B:=(Unit) ⊕ (Bool)) (fun self1 x0=>
  bif decide (x0<(a1.length:Int)) then
   Option.bind (bnd a1.length x0 fun n2=>
    Option.bind a1[n2]? fun y3=>
    Option.bind (Option.bind (g_iin (y3,(0:Int),x0)) fun r4=>
     bif !r4.1 then
      some true
     else bnd a1.length y3 fun n5=>
     Option.bind a1[n5]? fun y6=>
     some (!decide (y6=y3)):Option (Bool)) fun x7=>
    bif x7 then
     some (Sum.inr false)
    else some (Sum.inl ()):Option ((Unit) ⊕ (Bool))) fun y=>match y with
   | .inl x8=>
    self1 (IntKind.wrap .i64 (x0+(1:Int)))
   | .inr x8=>
    some (Sum.inr x8)
  else some (Sum.inl ())) (0:Int):Option ((Unit) ⊕ (Bool))) fun y=>match y with
 | .inl x9=>
  some (true,())
 | .inr x9=>
  some (x9,()):=by kernel_rfl
def c_iAnswerOk:TC:=
 (.seq (.rg [o1 3 (.a (.t 1)),
 o1 4 (.lit [.b] [.bool false])])
 (.seq (.join [⟨4,[.b],false⟩] 16777200 none (.rg [oc 5 0,
 o3 6 52 [.t 5,kO 1,kO 12],
 oc 7 6,
 o2 8 (.idx .nil) 2 true,
 o2 9 (.load 3 [] 0 (.t 8) 1 false) 2 true,
 ⟨false,[],[],.call 1 52 [.t 9,kO 1,kO 100000] .no,[10],(some 10),some (2,true)⟩,
 o7 7 (.t 10) (.c (.bool false)) 11,
 oc 12 11,
 o2 13 (.copy 0) 7 true,
 o2 14 (.idx .nil) 7 true,
 o2 15 (.load 3 [] 2 (.t 14) 1 false) 7 true,
 ⟨false,[],[],.call 1 87 [.t 13,.t 15] .no,[16],(some 16),some (7,true)⟩,
 o7 12 (.t 16) (.c (.bool false)) 17,
 oc 18 17,
 o2 19 (.copy 0) 13 true,
 o2 20 (.idx .nil) 13 true,
 o2 21 (.load 3 [] 3 (.t 20) 1 false) 13 true,
 ⟨false,[],[],.call 1 102 [.t 19,.t 21] .no,[22],(some 22),some (13,true)⟩,
 o7 18 (.t 22) (.c (.bool false)) 23,
 oc 4 23]))
 .ret))
def s_iAnswerOk:Sig:=⟨[.rd false [.d],.rd true Ct1],(.one false [.d])⟩
def E_iAnswerOk:TEnv:=envOf [(52,p_iin),(87,p_iedgesOk),(102,p_ilabelsOk)]
def f_iAnswerOk (n:Nat):Int × (Int × Bool × List (Int × Int) × List (Int))->Option ((Bool) × Unit):=runFn n E_iAnswerOk c_iAnswerOk [[.i .i64],Ty3] [.b] [] [4] .no
def g_iAnswerOk:=f_iAnswerOk BIG
def p_iAnswerOk:TSp:=⟨s_iAnswerOk,[[.i .i64],Ty3],[.b],[],Ou.j .no,g_iAnswerOk⟩
theorem k_iAnswerOk:chkW PG E_iAnswerOk 73 s_iAnswerOk (c_iAnswerOk.ht 24) .no=some (c_iAnswerOk.wc E_iAnswerOk,[4]):=by kernel_rfl
theorem ok_iAnswerOk:p_iAnswerOk.Ok PG 73:=mkOk (env_cons ok_iin (env_cons ok_iedgesOk (env_cons ok_ilabelsOk (env_nil PG)))) k_iAnswerOk (by kernel_rfl)
theorem e_iAnswerOk (n) (a0) (a1):f_iAnswerOk n (a0,a1) =
 Option.bind (Option.bind (g_iin (a0,(1:Int),(12:Int))) fun r0=>
 bif r0.1 then
 Option.bind (g_iin (a1.1,(1:Int),(100000:Int))) fun r1=>
 bif r1.1 then
 Option.bind (g_iedgesOk (a0,a1.2.2.1)) fun r2=>
 bif r2.1 then
 Option.bind (g_ilabelsOk (a0,a1.2.2.2)) fun r3=>
 some r3.1
 else some false
 else some false
 else some false:Option (Bool)) fun x4=>
 some (x4,()):=by kernel_rfl
def c_iWebLabels:TC:=
 (.seq (.rg [o1 1 (.a (.t 0)),
 o1 2 (.lit [.sl [.i .i64]] [.slice none 0 0])])
 (.seq (.seq (.rg [o1 3 (.load 1 [] 0 .nil 2 false),
 o3 4 14 [.t 3],
 o1 5 (.data .not [.t 4])])
 (.cond (.t 5)
 (.seq (.rg [o1 2 (.lit [.sl [.i .i64]] [.slice none 0 0])])
 .ret)
 .skip))
 (.seq (.rg [o1 6 (.load 1 [] 0 .nil 2 false),
 o3 7 44 [.t 6,kO 0],
 o5 (.copy 7) 2 7])
 .ret)))
def s_iWebLabels:Sig:=⟨[.rd true Ct4],(.one false Ct7)⟩
def E_iWebLabels:TEnv:=envOf [(14,p_iWebOk),(44,p_ilabelsAt)]
def f_iWebLabels (n:Nat):(Int × List (Int × Int × Int × Bool))->Option ((List (Int)) × Unit):=runFn n E_iWebLabels c_iWebLabels [Ty6] [.sl [.i .i64]] [] [2] .no
def g_iWebLabels:=f_iWebLabels BIG
def p_iWebLabels:TSp:=⟨s_iWebLabels,[Ty6],[.sl [.i .i64]],[],Ou.j .no,g_iWebLabels⟩
theorem k_iWebLabels:chkW PG E_iWebLabels 17 s_iWebLabels (c_iWebLabels.ht 8) .no=some (c_iWebLabels.wc E_iWebLabels,[2]):=by kernel_rfl
theorem ok_iWebLabels:p_iWebLabels.Ok PG 17:=mkOk (env_cons ok_iWebOk (env_cons ok_ilabelsAt (env_nil PG))) k_iWebLabels (by kernel_rfl)
theorem e_iWebLabels (n) (a0):f_iWebLabels n a0 =
 Option.bind (g_iWebOk a0) fun r0=>
 bif !r0.1 then
 some ([],())
 else Option.bind (g_ilabelsAt (a0,(0:Int))) fun r1=>
 some (r1.1,()):=by kernel_rfl
def c_isameInts:TC:=
 (.seq (.rg [o1 4 (.lit [.b] [.bool false])])
 (.seq (.seq (.rg [oc 6 0,
 o1 7 (.len 6),
 oc 8 1,
 o1 9 (.len 8),
 o1 10 (.data (.bin .neq) [.t 7,.t 9])])
 (.cond (.t 10)
 (.seq (.rg [o1 4 (.lit [.b] [.bool false])])
 .ret)
 .skip))
 (.seq (.join [] 67106864 (some [⟨4,[.b],false⟩]) (.seq (.rg [oc 11 0,
 o1 12 (.len 11),
 o1 13 (kL 0)])
 (.block 0 (.loop [⟨13,[.i .i64],false⟩] 67100720
 (.seq (.rg [o1 14 (.data (.bin .lss) [.t 13,.t 12])])
 (.seq (.cond (.t 14)
 .skip
 (.exit 0))
 (.seq (.block 1 (.seq (.rg [oc 15 13,
 oc 5 15])
 (.seq (.rg [oc 16 0,
 oc 17 5,
 oc 20 1,
 oc 21 5,
 o1 18 (.index 16 (.t 17)),
 o1 19 (.load 16 [(0,1)] 0 (.t 18) 1 false),
 o1 22 (.index 20 (.t 21)),
 o1 23 (.load 20 [(0,1)] 0 (.t 22) 1 false),
 o1 24 (.data (.bin .neq) [.t 19,.t 23])])
 (.cond (.t 24)
 (.seq (.rg [o1 4 (.lit [.b] [.bool false])])
 .ret)
 .skip))))
 (.rg [o1 25 (.data (.bin .add) [.t 13,kD 1]),
 oc 13 25]))))))))
 (.seq (.rg [o1 4 (.lit [.b] [.bool true])])
 .ret))))
def s_isameInts:Sig:=⟨[.rd false Ct7,.rd false Ct7],(.one false [.d])⟩
def E_isameInts:TEnv:=envOf []
def f_isameInts (n:Nat):List (Int) × List (Int)->Option ((Bool) × Unit):=runFn n E_isameInts c_isameInts [[.sl [.i .i64]],[.sl [.i .i64]]] [.b] [] [4] .no
def g_isameInts:=f_isameInts BIG
def p_isameInts:TSp:=⟨s_isameInts,[[.sl [.i .i64]],[.sl [.i .i64]]],[.b],[],Ou.j .no,g_isameInts⟩
theorem k_isameInts:chkW PG E_isameInts 74 s_isameInts (c_isameInts.ht 26) .no=some (c_isameInts.wc E_isameInts,[4]):=by kernel_rfl
theorem ok_isameInts:p_isameInts.Ok PG 74:=mkOk (env_nil PG) k_isameInts (by kernel_rfl)
theorem e_isameInts (n) (a0) (a1):f_isameInts n (a0,a1) =
 bif !decide ((a0.length:Int)=(a1.length:Int)) then
  some (false,())
 else Option.bind (loopT n (X:=Int) (B:=(Unit) ⊕ (Bool)) (fun self1 x0=>
  bif decide (x0<(a0.length:Int)) then
   bnd a0.length x0 fun n2=>
   Option.bind a0[n2]? fun y3=>
   bnd a1.length x0 fun n4=>
   Option.bind a1[n4]? fun y5=>
   bif !decide (y3=y5) then
    some (Sum.inr false)
   else self1 (IntKind.wrap .i64 (x0+(1:Int)))
  else some (Sum.inl ())) (0:Int):Option ((Unit) ⊕ (Bool))) fun y=>match y with
 | .inl x6=>
  some (true,())
 | .inr x6=>
  some (x6,()):=by kernel_rfl
def c_iShardOk:TC:=
 (.seq (.rg [o1 1 (.a (.t 0)),
 o1 2 (.lit [.b] [.bool false])])
 (.seq (.seq (.join [⟨12,[.b],false⟩] 8184 none (.rg [oi 3,
 o1 4 (.load 1 [] 0 (.t 3) 1 false),
 o3 5 52 [.t 4,kO 1,kO 3],
 o1 6 (.data .not [.t 5]),
 oc 7 6,
 o2 8 (.idx .nil) 4 false,
 o2 9 (.load 1 [] 1 (.t 8) 2 false) 4 false,
 ⟨false,[],[],.call 1 14 [.t 9] .no,[10],(some 10),some (4,false)⟩,
 o2 11 (.data .not [.t 10]) 4 false,
 o7 7 (.c (.bool true)) (.t 11) 12]))
 (.cond (.t 12)
 (.seq (.rg [o1 2 (.lit [.b] [.bool false])])
 .ret)
 .skip))
 (.seq (.join [⟨2,[.b],false⟩] 8589926404 none (.rg [oi 13,
 o1 14 (.load 1 [] 3 (.t 13) 4 false),
 o3 15 72 [.t 14],
 oc 16 15,
 o2 17 (.idx .nil) 3 false,
 o2 18 (.idx (.t 17)) 3 false,
 o2 19 (.load 1 [] 1 (.t 18) 1 false) 3 false,
 o2 20 (.idx .nil) 3 false,
 o2 21 (.load 1 [] 3 (.t 20) 4 false) 3 false,
 ⟨false,[],[],.call 1 73 [.t 19,.t 21] .no,[22],(some 22),some (3,false)⟩,
 o2 23 (.copy 22) 3 false,
 o2 24 (.idx .nil) 10 true,
 o2 25 (.idx (.t 24)) 10 true,
 o2 26 (.load 1 [] 6 (.t 25) 1 false) 10 true,
 o2 27 (.idx .nil) 10 true,
 o2 28 (.load 1 [] 1 (.t 27) 2 false) 10 true,
 ⟨false,[],[],.call 1 17 [.t 28] .no,[29],(some 29),some (10,true)⟩,
 ⟨false,[],[],.call 1 74 [.t 26,.t 29] .no,[30],(some 30),some (10,true)⟩,
 ⟨false,[],[],.pick 23 (.t 30) (.c (.bool false)),[31],(some 31),some (3,false)⟩,
 o7 16 (.c (.bool true)) (.t 31) 32,
 oc 2 32]))
 .ret)))
def s_iShardOk:Sig:=⟨[.rd true Ct0],(.one false [.d])⟩
def E_iShardOk:TEnv:=envOf [(52,p_iin),(14,p_iWebOk),(72,p_inoAnswer),(73,p_iAnswerOk),(17,p_iWebLabels),(74,p_isameInts)]
def f_iShardOk (n:Nat):(Int × Int × List (Int × Int × Int × Bool) × Int × Bool × List (Int × Int) × List (Int))->Option ((Bool) × Unit):=runFn n E_iShardOk c_iShardOk [Ty1] [.b] [] [2] .no
def g_iShardOk:=f_iShardOk BIG
def p_iShardOk:TSp:=⟨s_iShardOk,[Ty1],[.b],[],Ou.j .no,g_iShardOk⟩
theorem k_iShardOk:chkW PG E_iShardOk 26 s_iShardOk (c_iShardOk.ht 33) .no=some (c_iShardOk.wc E_iShardOk,[2]):=by kernel_rfl
theorem ok_iShardOk:p_iShardOk.Ok PG 26:=mkOk (env_cons ok_iin (env_cons ok_iWebOk (env_cons ok_inoAnswer (env_cons ok_iAnswerOk (env_cons ok_iWebLabels (env_cons ok_isameInts (env_nil PG))))))) k_iShardOk (by kernel_rfl)
theorem e_iShardOk (n) (a0):f_iShardOk n a0 =
 Option.bind (Option.bind (g_iin (a0.1,(1:Int),(3:Int))) fun r0=>
 bif !r0.1 then
 some true
 else Option.bind (g_iWebOk (a0.2.1,a0.2.2.1)) fun r1=>
 some !r1.1:Option (Bool)) fun x2=>
 bif x2 then
 some (false,())
 else Option.bind (Option.bind (g_inoAnswer a0.2.2.2) fun r3=>
 bif r3.1 then
 some true
 else Option.bind (g_iAnswerOk (a0.2.1,a0.2.2.2)) fun r4=>
 bif r4.1 then
 Option.bind (g_iWebLabels (a0.2.1,a0.2.2.1)) fun r5=>
 Option.bind (g_isameInts (a0.2.2.2.2.2.2,r5.1)) fun r6=>
 some r6.1
 else some false:Option (Bool)) fun x7=>
 some (x7,()):=by kernel_rfl
def c_iOrderOk:TC:=
 (.seq (.rg [o1 3 (.a (.t 1)),
 o1 4 (.lit [.b] [.bool false])])
 (.seq (.seq (.join [⟨30,[.b],false⟩] 2147483616 none (.rg [oc 5 0,
 o3 6 52 [.t 5,kO 1,kO 12],
 o1 7 (.data .not [.t 6]),
 oc 8 7,
 o2 9 (.idx .nil) 3 false,
 o2 10 (.load 3 [] 0 (.t 9) 1 false) 3 false,
 ⟨false,[],[],.call 1 52 [.t 10,kO 1,kO 100000] .no,[11],(some 11),some (3,false)⟩,
 o2 12 (.data .not [.t 11]) 3 false,
 o7 8 (.c (.bool true)) (.t 12) 13,
 oc 14 13,
 o2 15 (.copy 0) 9 false,
 o2 16 (.idx .nil) 9 false,
 o2 17 (.load 3 [] 2 (.t 16) 1 false) 9 false,
 ⟨false,[],[],.call 1 87 [.t 15,.t 17] .no,[18],(some 18),some (9,false)⟩,
 o2 19 (.data .not [.t 18]) 9 false,
 o7 14 (.c (.bool true)) (.t 19) 20,
 oc 21 20,
 o2 22 (.idx .nil) 16 false,
 o2 23 (.load 3 [] 3 (.t 22) 1 false) 16 false,
 o2 24 (.data (.bin .neq) [.t 23,kD 0]) 16 false,
 o2 25 (.copy 24) 16 false,
 o2 26 (.idx .nil) 20 true,
 o2 27 (.load 3 [] 1 (.t 26) 1 false) 20 true,
 o2 28 (.data (.bin .neq) [.t 27,kD 3]) 20 true,
 ⟨false,[],[],.pick 25 (.t 28) (.c (.bool false)),[29],(some 29),some (16,false)⟩,
 o7 21 (.c (.bool true)) (.t 29) 30]))
 (.cond (.t 30)
 (.seq (.rg [o1 4 (.lit [.b] [.bool false])])
 .ret)
 .skip))
 (.seq (.join [] 576460750155939856 (some [⟨4,[.b],false⟩]) (.seq (.rg [oi 31,
 o1 32 (.load 3 [] 1 (.t 31) 1 false)])
 (.block 0 (.seq (.join [⟨33,[.b],false⟩] 60129542144 none (.seq (.rg [o1 34 (.data (.bin .eql) [.t 32,kD 1]),
 oc 33 34])
 (.cond (.t 33)
 .skip
 (.rg [o1 35 (.data (.bin .eql) [.t 32,kD 2]),
 oc 33 35]))))
 (.cond (.t 33)
 (.seq (.rg [oi 36,
 o1 37 (.load 3 [] 2 (.t 36) 1 false),
 o1 38 (.len 37),
 o1 39 (.data (.bin .eql) [.t 38,kD 1]),
 oc 4 39])
 .ret)
 (.seq (.rg [o1 41 (.data (.bin .eql) [.t 32,kD 3]),
 oc 40 41])
 (.cond (.t 40)
 (.seq (.join [⟨4,[.b],false⟩] 9002801208229904 none (.rg [oi 42,
 o1 43 (.load 3 [] 2 (.t 42) 1 false),
 o1 44 (.len 43),
 o1 45 (.data (.bin .eql) [.t 44,kD 0]),
 oc 46 45,
 o2 47 (.idx .nil) 4 true,
 o2 48 (.load 3 [] 3 (.t 47) 1 false) 4 true,
 o2 49 (.copy 0) 4 true,
 o2 50 (.data (.bin .sub) [.t 49,kD 1]) 4 true,
 ⟨false,[],[],.call 1 52 [.t 48,kO 0,.t 50] .no,[51],(some 51),some (4,true)⟩,
 o7 46 (.t 51) (.c (.bool false)) 52,
 oc 4 52]))
 .ret)
 (.seq (.rg [o1 54 (.data (.bin .eql) [.t 32,kD 4]),
 oc 53 54])
 (.cond (.t 53)
 (.seq (.rg [oi 55,
 o1 56 (.load 3 [] 2 (.t 55) 1 false),
 o1 57 (.len 56),
 o1 58 (.data (.bin .gtr) [.t 57,kD 0]),
 oc 4 58])
 .ret)
 .skip)))))))))
 (.seq (.rg [o1 4 (.lit [.b] [.bool false])])
 .ret))))
def s_iOrderOk:Sig:=⟨[.rd false [.d],.rd true Ct3],(.one false [.d])⟩
def E_iOrderOk:TEnv:=envOf [(52,p_iin),(87,p_iedgesOk)]
def f_iOrderOk (n:Nat):Int × (Int × Int × List (Int × Int) × Int)->Option ((Bool) × Unit):=runFn n E_iOrderOk c_iOrderOk [[.i .i64],Ty4] [.b] [] [4] .no
def g_iOrderOk:=f_iOrderOk BIG
def p_iOrderOk:TSp:=⟨s_iOrderOk,[[.i .i64],Ty4],[.b],[],Ou.j .no,g_iOrderOk⟩
theorem k_iOrderOk:chkW PG E_iOrderOk 61 s_iOrderOk (c_iOrderOk.ht 59) .no=some (c_iOrderOk.wc E_iOrderOk,[4]):=by kernel_rfl
theorem ok_iOrderOk:p_iOrderOk.Ok PG 61:=mkOk (env_cons ok_iin (env_cons ok_iedgesOk (env_nil PG))) k_iOrderOk (by kernel_rfl)
theorem e_iOrderOk (n) (a0) (a1):f_iOrderOk n (a0,a1) =
 Option.bind (Option.bind (g_iin (a0,(1:Int),(12:Int))) fun r0=>
  bif !r0.1 then
   some true
  else Option.bind (g_iin (a1.1,(1:Int),(100000:Int))) fun r1=>
  bif !r1.1 then
   some true
  else Option.bind (g_iedgesOk (a0,a1.2.2.1)) fun r2=>
  bif !r2.1 then
   some true
  else bif !decide (a1.2.2.2=(0:Int)) then
   some (!decide (a1.2.1=(3:Int)))
  else some false:Option (Bool)) fun x3=>
 bif x3 then
  some (false,())
 else Option.bind (Option.bind (bif decide (a1.2.1=(1:Int)) then
   some true
  else some (decide (a1.2.1=(2:Int))):Option (Bool)) fun x4=>
  bif x4 then
   some (Sum.inr (decide ((a1.2.2.1.length:Int)=(1:Int))))
  else bif decide (a1.2.1=(3:Int)) then
   Option.bind (bif decide ((a1.2.2.1.length:Int)=(0:Int)) then
    Option.bind (g_iin (a1.2.2.2,(0:Int),IntKind.wrap .i64 (a0-(1:Int)))) fun r5=>
    some r5.1
    else some false:Option (Bool)) fun x6=>
   some (Sum.inr x6)
  else bif decide (a1.2.1=(4:Int)) then
   some (Sum.inr (decide ((0:Int)<(a1.2.2.1.length:Int))))
  else some (Sum.inl ()):Option ((Unit) ⊕ (Bool))) fun y=>match y with
 | .inl x7=>
  some (false,())
 | .inr x7=>
  some (x7,()):=by kernel_rfl
def c_icopyWeb:TC:=
 (.seq (.rg [o1 1 (.a (.t 0)),
 o5 (.a (.c Ty6 [kV 0,.slice none 0 0])) 2 1000000003])
 (.seq (.rg [oi 3,
 o1 4 (.load 1 [] 0 (.t 3) 1 false),
 oi 5,
 o1 6 (.load 1 [] 1 (.t 5) 1 false),
 o1 7 (.app none 6),
 o5 (.build Ty6 [(0,.t 4),(1,.t 7)]) 8 7,
 o4 2 [2,8] (.store 2 [] 0 .nil (.t 8))])
 .ret))
def s_icopyWeb:Sig:=⟨[.rd true Ct4],(.one true Ct4)⟩
def E_icopyWeb:TEnv:=envOf []
def f_icopyWeb (n:Nat):(Int × List (Int × Int × Int × Bool))->Option ((Int × List (Int × Int × Int × Bool)) × Unit):=runFn n E_icopyWeb c_icopyWeb [Ty6] Ty6 [] [2] .no
def g_icopyWeb:=f_icopyWeb BIG
def p_icopyWeb:TSp:=⟨s_icopyWeb,[Ty6],Ty6,[],Ou.j .no,g_icopyWeb⟩
theorem k_icopyWeb:chkW PG E_icopyWeb 46 s_icopyWeb (c_icopyWeb.ht 9) .no=some (c_icopyWeb.wc E_icopyWeb,[2]):=by kernel_rfl
theorem ok_icopyWeb:p_icopyWeb.Ok PG 46:=mkOk (env_nil PG) k_icopyWeb (by kernel_rfl)
theorem e_icopyWeb (n) (a0):f_icopyWeb n a0 =
 bif decide (a0.2.length<=4294967296) then
 some (a0,())
 else none:=by kernel_rfl
def c_icopyEdges:TC:=
 (.seq (.rg [o1 2 (.lit [.sl [.i .i64,.i .i64]] [.slice none 0 0])])
 (.seq (.rg [oc 3 0,
 o1 4 (.app none 3),
 o5 (.copy 4) 2 4])
 .ret))
def s_icopyEdges:Sig:=⟨[.rd false Ct6],(.one false Ct6)⟩
def E_icopyEdges:TEnv:=envOf []
def f_icopyEdges (n:Nat):(List (Int × Int))->Option ((List (Int × Int)) × Unit):=runFn n E_icopyEdges c_icopyEdges [[.sl [.i .i64,.i .i64]]] [.sl [.i .i64,.i .i64]] [] [2] .no
def g_icopyEdges:=f_icopyEdges BIG
def p_icopyEdges:TSp:=⟨s_icopyEdges,[[.sl [.i .i64,.i .i64]]],[.sl [.i .i64,.i .i64]],[],Ou.j .no,g_icopyEdges⟩
theorem k_icopyEdges:chkW PG E_icopyEdges 95 s_icopyEdges (c_icopyEdges.ht 5) .no=some (c_icopyEdges.wc E_icopyEdges,[2]):=by kernel_rfl
theorem ok_icopyEdges:p_icopyEdges.Ok PG 95:=mkOk (env_nil PG) k_icopyEdges (by kernel_rfl)
theorem e_icopyEdges (n) (a0):f_icopyEdges n a0 =
 bif decide (a0.length<=4294967296) then
 some (a0,())
 else none:=by kernel_rfl
def c_icopyInts:TC:=
 (.seq (.rg [o1 2 (.lit [.sl [.i .i64]] [.slice none 0 0])])
 (.seq (.rg [oc 3 0,
 o1 4 (.app none 3),
 o5 (.copy 4) 2 4])
 .ret))
def s_icopyInts:Sig:=⟨[.rd false Ct7],(.one false Ct7)⟩
def E_icopyInts:TEnv:=envOf []
def f_icopyInts (n:Nat):List (Int)->Option ((List (Int)) × Unit):=runFn n E_icopyInts c_icopyInts [[.sl [.i .i64]]] [.sl [.i .i64]] [] [2] .no
def g_icopyInts:=f_icopyInts BIG
def p_icopyInts:TSp:=⟨s_icopyInts,[[.sl [.i .i64]]],[.sl [.i .i64]],[],Ou.j .no,g_icopyInts⟩
theorem k_icopyInts:chkW PG E_icopyInts 96 s_icopyInts (c_icopyInts.ht 5) .no=some (c_icopyInts.wc E_icopyInts,[2]):=by kernel_rfl
theorem ok_icopyInts:p_icopyInts.Ok PG 96:=mkOk (env_nil PG) k_icopyInts (by kernel_rfl)
theorem e_icopyInts (n) (a0):f_icopyInts n a0 =
 bif decide (a0.length<=4294967296) then
 some (a0,())
 else none:=by kernel_rfl
def c_icopyAnswer:TC:=
 (.seq (.rg [o1 1 (.a (.t 0)),
 o5 (.a (.c Ty3 [kV 0,.bool false,.slice none 0 0,.slice none 0 0])) 2 1000000003])
 (.seq (.rg [oi 3,
 o1 4 (.load 1 [] 2 (.t 3) 1 false),
 o3 5 95 [.t 4],
 oi 6,
 o1 7 (.load 1 [] 3 (.t 6) 1 false),
 o3 8 96 [.t 7],
 oi 9,
 o4 2 [1,5] (.store 1 [] 2 (.t 9) (.t 5)),
 oi 10,
 o4 2 [1,8] (.store 1 [] 3 (.t 10) (.t 8))])
 (.seq (.rg [o1 11 (.load 1 [] 0 .nil 4 true),
 ⟨false,[11],[],.det 2 (.store 2 [] 0 .nil (.t 11)),[2,11,11,1],none,none⟩])
 .ret)))
def s_icopyAnswer:Sig:=⟨[.rd true Ct1],(.one true Ct1)⟩
def E_icopyAnswer:TEnv:=envOf [(95,p_icopyEdges),(96,p_icopyInts)]
def f_icopyAnswer (n:Nat):(Int × Bool × List (Int × Int) × List (Int))->Option ((Int × Bool × List (Int × Int) × List (Int)) × Unit):=runFn n E_icopyAnswer c_icopyAnswer [Ty3] Ty3 [] [2] .no
def g_icopyAnswer:=f_icopyAnswer BIG
def p_icopyAnswer:TSp:=⟨s_icopyAnswer,[Ty3],Ty3,[],Ou.j .no,g_icopyAnswer⟩
theorem k_icopyAnswer:chkW PG E_icopyAnswer 63 s_icopyAnswer (c_icopyAnswer.ht 12) .no=some (c_icopyAnswer.wc E_icopyAnswer,[2]):=by kernel_rfl
theorem ok_icopyAnswer:p_icopyAnswer.Ok PG 63:=mkOk (env_cons ok_icopyEdges (env_cons ok_icopyInts (env_nil PG))) k_icopyAnswer (by kernel_rfl)
theorem e_icopyAnswer (n) (a0):f_icopyAnswer n a0 =
 Option.bind (g_icopyEdges a0.2.2.1) fun r0=>
 Option.bind (g_icopyInts a0.2.2.2) fun r1=>
 some ((a0.1,a0.2.1,r0.1,r1.1),()):=by kernel_rfl
def c_icopyShard:TC:=
 (.seq (.rg [o1 1 (.a (.t 0)),
 o5 (.a (.c Ty1 [kV 0,kV 0,.slice none 0 0,kV 0,.bool false,.slice none 0 0,.slice none 0 0])) 2 1000000003])
 (.seq (.rg [oi 3,
 o1 4 (.load 1 [] 0 (.t 3) 1 false),
 oi 5,
 o1 6 (.load 1 [] 1 (.t 5) 2 false),
 o3 7 46 [.t 6],
 oi 8,
 o1 9 (.load 1 [] 3 (.t 8) 4 false),
 o3 10 63 [.t 9],
 ⟨false,[],[],.det 3 (.build Ty1 [(0,.t 4),(1,.t 7),(3,.t 10)]),[11,7,10],(some 11),none⟩,
 o4 2 [2,11] (.store 2 [] 0 .nil (.t 11))])
 .ret))
def s_icopyShard:Sig:=⟨[.rd true Ct0],(.one true Ct0)⟩
def E_icopyShard:TEnv:=envOf [(46,p_icopyWeb),(63,p_icopyAnswer)]
def f_icopyShard (n:Nat):(Int × Int × List (Int × Int × Int × Bool) × Int × Bool × List (Int × Int) × List (Int))->Option ((Int × Int × List (Int × Int × Int × Bool) × Int × Bool × List (Int × Int) × List (Int)) × Unit):=runFn n E_icopyShard c_icopyShard [Ty1] Ty1 [] [2] .no
def g_icopyShard:=f_icopyShard BIG
def p_icopyShard:TSp:=⟨s_icopyShard,[Ty1],Ty1,[],Ou.j .no,g_icopyShard⟩
theorem k_icopyShard:chkW PG E_icopyShard 62 s_icopyShard (c_icopyShard.ht 12) .no=some (c_icopyShard.wc E_icopyShard,[2]):=by kernel_rfl
theorem ok_icopyShard:p_icopyShard.Ok PG 62:=mkOk (env_cons ok_icopyWeb (env_cons ok_icopyAnswer (env_nil PG))) k_icopyShard (by kernel_rfl)
theorem e_icopyShard (n) (a0):f_icopyShard n a0 =
 Option.bind (g_icopyWeb (a0.2.1,a0.2.2.1)) fun r0=>
 Option.bind (g_icopyAnswer a0.2.2.2) fun r1=>
 some ((a0.1,r0.1.1,r0.1.2,r1.1),()):=by kernel_rfl
def c_ihasEdge:TC:=
 (.seq (.rg [o1 3 (.a (.t 1)),
 o1 4 (.lit [.b] [.bool false])])
 (.seq (.join [] 131024 (some [⟨4,[.b],false⟩]) (.seq (.rg [oc 7 0,
 o1 8 (.len 7),
 o1 9 (kL 0)])
 (.block 0 (.loop [⟨9,[.i .i64],false⟩] 130640
 (.seq (.rg [o1 10 (.data (.bin .lss) [.t 9,.t 8])])
 (.seq (.cond (.t 10)
 .skip
 (.exit 0))
 (.seq (.block 1 (.seq (.rg [o1 11 (.index 7 (.t 9)),
 o1 12 (.load 7 [(0,2)] 0 (.t 11) 2 false),
 o5 (.a (.c [.i .i64,.i .i64] [kV 0,kV 0])) 6 1000000007,
 o4 1 [6] (.store 6 [] 0 .nil (.t 12))])
 (.seq (.rg [o1 13 (.load 6 [] 0 .nil 2 false),
 o1 14 (.load 3 [] 0 .nil 2 false),
 o1 15 (.eqA [.i,.i] (.t 13) (.t 14) false)])
 (.cond (.t 15)
 (.seq (.rg [o1 4 (.lit [.b] [.bool true])])
 .ret)
 .skip))))
 (.rg [o1 16 (.data (.bin .add) [.t 9,kD 1]),
 oc 9 16]))))))))
 (.seq (.rg [o1 4 (.lit [.b] [.bool false])])
 .ret)))
def s_ihasEdge:Sig:=⟨[.rd false Ct6,.rd true [.d,.d]],(.one false [.d])⟩
def E_ihasEdge:TEnv:=envOf []
def f_ihasEdge (n:Nat):(List (Int × Int)) × (Int × Int)->Option ((Bool) × Unit):=runFn n E_ihasEdge c_ihasEdge [[.sl [.i .i64,.i .i64]],[.i .i64,.i .i64]] [.b] [] [4] .no
def g_ihasEdge:=f_ihasEdge BIG
def p_ihasEdge:TSp:=⟨s_ihasEdge,[[.sl [.i .i64,.i .i64]],[.i .i64,.i .i64]],[.b],[],Ou.j .no,g_ihasEdge⟩
theorem k_ihasEdge:chkW PG E_ihasEdge 78 s_ihasEdge (c_ihasEdge.ht 17) .no=some (c_ihasEdge.wc E_ihasEdge,[4]):=by kernel_rfl
theorem ok_ihasEdge:p_ihasEdge.Ok PG 78:=mkOk (env_nil PG) k_ihasEdge (by kernel_rfl)
theorem e_ihasEdge (n) (a0) (a1):f_ihasEdge n (a0,a1) =
 Option.bind (loopT n (X:=Int) (B:=(Unit) ⊕ (Bool)) (fun self1 x0=>
  bif decide (x0<(a0.length:Int)) then
   bnd a0.length x0 fun n2=>
   Option.bind a0[n2]? fun y3=>
   bif (decide (y3.1=a1.1)&&(decide (y3.2=a1.2)&&true)) then
    some (Sum.inr true)
   else self1 (IntKind.wrap .i64 (x0+(1:Int)))
  else some (Sum.inl ())) (0:Int):Option ((Unit) ⊕ (Bool))) fun y=>match y with
 | .inl x4=>
  some (false,())
 | .inr x4=>
  some (x4,()):=by kernel_rfl
def c_iHasEdge:TC:=
 (.seq (.rg [o1 2 (.a (.t 0)),
 o1 3 (.a (.t 1)),
 o1 4 (.lit [.b] [.bool false])])
 (.seq (.rg [oi 5,
 o1 6 (.load 2 [] 1 (.t 5) 1 false),
 o1 7 (.load 3 [] 0 .nil 2 false),
 o3 8 78 [.t 6,.t 7],
 oc 4 8])
 .ret))
def s_iHasEdge:Sig:=⟨[.rd true Ct5,.rd true [.d,.d]],(.one false [.d])⟩
def E_iHasEdge:TEnv:=envOf [(78,p_ihasEdge)]
def f_iHasEdge (n:Nat):(Int × List (Int × Int)) × (Int × Int)->Option ((Bool) × Unit):=runFn n E_iHasEdge c_iHasEdge [Ty9,[.i .i64,.i .i64]] [.b] [] [4] .no
def g_iHasEdge:=f_iHasEdge BIG
def p_iHasEdge:TSp:=⟨s_iHasEdge,[Ty9,[.i .i64,.i .i64]],[.b],[],Ou.j .no,g_iHasEdge⟩
theorem k_iHasEdge:chkW PG E_iHasEdge 39 s_iHasEdge (c_iHasEdge.ht 9) .no=some (c_iHasEdge.wc E_iHasEdge,[4]):=by kernel_rfl
theorem ok_iHasEdge:p_iHasEdge.Ok PG 39:=mkOk (env_cons ok_ihasEdge (env_nil PG)) k_iHasEdge (by kernel_rfl)
theorem e_iHasEdge (n) (a0) (a1):f_iHasEdge n (a0,a1) =
 Option.bind (g_ihasEdge (a0.2,a1)) fun r0=>
 some (r0.1,()):=by kernel_rfl
def c_iWeb_look:TC:=
 (.seq (.rg [o1 4 (.a (.t 1)),
 o5 (.a (.c [.i .i64,.i .i64] [kV 0,kV 0])) 6 1000000007,
 o1 7 (.lit [.b] [.bool false])])
 (.seq (.rg [o1 15 (.p0),
 o1 16 (.same 15),
 o1 17 (.load 0 [] 0 (.t 16) 2 true),
 oc 18 2,
 o3 19 44 [.t 17,.t 18],
 o5 (.copy 19) 8 19])
 (.seq (.rg [o6 20 8,
 oi 21,
 o1 22 (.load 4 [] 0 (.t 21) 1 false),
 o1 23 (.index 20 (.t 22)),
 o1 24 (.load 8 [(0,1)] 0 (.t 23) 1 false),
 oc 9 24])
 (.seq (.join [⟨9,[.i .i64],false⟩] 35184338534912 none (.seq (.rg [o6 25 8,
 o6 26 8,
 o6 32 8,
 o6 33 8,
 oi 27,
 o1 28 (.load 4 [] 1 (.t 27) 1 false),
 o1 29 (.index 26 (.t 28)),
 o1 30 (.load 8 [(0,1)] 0 (.t 29) 1 false),
 o3 31 79 [.t 25,.t 30],
 oi 34,
 o1 35 (.load 4 [] 0 (.t 34) 1 false),
 o1 36 (.index 33 (.t 35)),
 o1 37 (.load 8 [(0,1)] 0 (.t 36) 1 false),
 o3 38 79 [.t 32,.t 37],
 o1 39 (.data (.bin .lss) [.t 31,.t 38])])
 (.cond (.t 39)
 (.rg [o6 40 8,
 oi 41,
 o1 42 (.load 4 [] 1 (.t 41) 1 false),
 o1 43 (.index 40 (.t 42)),
 o1 44 (.load 8 [(0,1)] 0 (.t 43) 1 false),
 oc 9 44])
 .skip)))
 (.seq (.rg [oc 45 2,
 o1 46 (.data (.bin .add) [.t 45,kD 1]),
 o1 47 (.data .min [.t 46,kD 4]),
 oc 10 47])
 (.seq (.join [⟨0,Ty6,false⟩] 1237940039285098799922419713 none (.seq (.rg [o1 48 (.p0),
 o1 49 (.same 48),
 o1 50 (.idx (.t 49)),
 o1 51 (.load 0 [] 1 (.t 50) 1 true),
 o1 52 (.len 51),
 o1 53 (kL 0)])
 (.block 0 (.loop [⟨0,Ty6,false⟩,⟨53,[.i .i64],false⟩] 1237940039278624875458205697
 (.seq (.rg [o1 54 (.data (.bin .lss) [.t 53,.t 52])])
 (.seq (.cond (.t 54)
 .skip
 (.exit 0))
 (.seq (.join [⟨0,Ty6,false⟩] 618970019606661340430604289 none (.block 1 (.seq (.rg [oc 55 53,
 oc 11 55])
 (.seq (.rg [o1 56 (.p0),
 o1 57 (.same 56),
 o1 58 (.idx (.t 57)),
 o1 59 (.load 0 [] 1 (.t 58) 1 true),
 oc 60 11,
 o1 61 (.index 59 (.t 60)),
 o1 12 (.same 61)])
 (.seq (.join [⟨84,[.b],false⟩] 38685621615982115163209728 none (.rg [o1 62 (.same 12),
 o1 63 (.same 62),
 o1 64 (.idx (.t 63)),
 o1 65 (.load 0 [(1,4)] 3 (.t 64) 1 false),
 oc 66 65,
 o2 67 (.same 12) 4 true,
 o2 68 (.same 67) 4 true,
 o2 69 (.idx (.t 68)) 4 true,
 o2 70 (.load 0 [(1,4)] 2 (.t 69) 1 false) 4 true,
 o2 71 (.copy 2) 4 true,
 o2 72 (.data (.bin .eql) [.t 70,.t 71]) 4 true,
 o7 66 (.t 72) (.c (.bool false)) 73,
 oc 74 73,
 ⟨true,[],[],.det 1 (.copy 8),[75],(some 75),some (12,true)⟩,
 o2 76 (.same 12) 12 true,
 o2 77 (.same 76) 12 true,
 o2 78 (.idx (.t 77)) 12 true,
 o2 79 (.load 0 [(1,4)] 0 (.t 78) 1 false) 12 true,
 o2 80 (.index 75 (.t 79)) 12 true,
 o2 81 (.load 8 [(0,1)] 0 (.t 80) 1 false) 12 true,
 o2 82 (.copy 9) 12 true,
 o2 83 (.data (.bin .eql) [.t 81,.t 82]) 12 true,
 o7 74 (.t 83) (.c (.bool false)) 84]))
 (.cond (.t 84)
 (.rg [o1 85 (.same 12),
 oc 86 10,
 o1 87 (.same 85),
 o1 88 (.idx (.t 87)),
 o4 1 [0,59] (.store 0 [(1,4)] 2 (.t 88) (.t 86))])
 .skip))))))
 (.rg [o1 89 (.data (.bin .add) [.t 53,kD 1]),
 oc 53 89]))))))))
 (.seq (.join [⟨0,Ty6,false⟩,⟨6,[.i .i64,.i .i64],false⟩] 1496577676626844588240572030761434526747400024907969 (some [⟨6,[.i .i64,.i .i64],false⟩,⟨7,[.b],false⟩,⟨0,Ty6,false⟩]) (.seq (.rg [o1 90 (.p0),
 o1 91 (.same 90),
 o1 92 (.idx (.t 91)),
 o1 93 (.load 0 [] 1 (.t 92) 1 true),
 o1 94 (.len 93),
 o1 95 (kL 0)])
 (.block 2 (.loop [⟨0,Ty6,false⟩,⟨6,[.i .i64,.i .i64],false⟩,⟨95,[.i .i64],false⟩] 1496577676626844588240543558140530963001077345050817
 (.seq (.rg [o1 96 (.data (.bin .lss) [.t 95,.t 94])])
 (.seq (.cond (.t 96)
 .skip
 (.exit 2))
 (.seq (.join [⟨0,Ty6,false⟩,⟨6,[.i .i64,.i .i64],false⟩] 748288838313422294120128178025708377388650374127809 (some [⟨6,[.i .i64,.i .i64],false⟩,⟨7,[.b],false⟩,⟨0,Ty6,false⟩]) (.block 3 (.seq (.rg [oc 97 95,
 oc 13 97])
 (.seq (.rg [o1 98 (.p0),
 o1 99 (.same 98),
 o1 100 (.idx (.t 99)),
 o1 101 (.load 0 [] 1 (.t 100) 1 true),
 oc 102 13,
 o1 103 (.index 101 (.t 102)),
 o1 14 (.same 103)])
 (.seq (.seq (.join [⟨137,[.b],false⟩] 348449143706758576982843927586183397244928 none (.rg [o1 104 (.same 14),
 o1 105 (.same 104),
 o1 106 (.idx (.t 105)),
 o1 107 (.load 0 [(1,4)] 3 (.t 106) 1 false),
 oc 108 107,
 o2 109 (.same 14) 4 false,
 o2 110 (.same 109) 4 false,
 o2 111 (.idx (.t 110)) 4 false,
 o2 112 (.load 0 [(1,4)] 2 (.t 111) 1 false) 4 false,
 o2 113 (.copy 2) 4 false,
 o2 114 (.data (.bin .neq) [.t 112,.t 113]) 4 false,
 o7 108 (.c (.bool true)) (.t 114) 115,
 oc 116 115,
 ⟨true,[],[],.det 1 (.copy 8),[117],(some 117),some (12,false)⟩,
 o2 118 (.same 14) 12 false,
 o2 119 (.same 118) 12 false,
 o2 120 (.idx (.t 119)) 12 false,
 o2 121 (.load 0 [(1,4)] 0 (.t 120) 1 false) 12 false,
 o2 122 (.index 117 (.t 121)) 12 false,
 o2 123 (.load 8 [(0,1)] 0 (.t 122) 1 false) 12 false,
 o2 124 (.copy 9) 12 false,
 o2 125 (.data (.bin .neq) [.t 123,.t 124]) 12 false,
 o2 126 (.copy 125) 12 false,
 ⟨true,[],[],.det 1 (.copy 8),[127],(some 127),some (22,true)⟩,
 o2 128 (.same 14) 22 true,
 o2 129 (.same 128) 22 true,
 o2 130 (.idx (.t 129)) 22 true,
 o2 131 (.load 0 [(1,4)] 1 (.t 130) 1 false) 22 true,
 o2 132 (.index 127 (.t 131)) 22 true,
 o2 133 (.load 8 [(0,1)] 0 (.t 132) 1 false) 22 true,
 o2 134 (.copy 9) 22 true,
 o2 135 (.data (.bin .neq) [.t 133,.t 134]) 22 true,
 ⟨false,[],[],.pick 126 (.t 135) (.c (.bool false)),[136],(some 136),some (12,false)⟩,
 o7 116 (.c (.bool true)) (.t 136) 137]))
 (.cond (.t 137)
 (.exit 3)
 .skip))
 (.seq (.seq (.rg [o6 138 8,
 o1 139 (.same 14),
 o6 145 8,
 o1 146 (.same 14),
 o1 140 (.same 139),
 o1 141 (.idx (.t 140)),
 o1 142 (.load 0 [(1,4)] 0 (.t 141) 1 false),
 o1 143 (.index 138 (.t 142)),
 o1 144 (.load 8 [(0,1)] 0 (.t 143) 1 false),
 o1 147 (.same 146),
 o1 148 (.idx (.t 147)),
 o1 149 (.load 0 [(1,4)] 1 (.t 148) 1 false),
 o1 150 (.index 145 (.t 149)),
 o1 151 (.load 8 [(0,1)] 0 (.t 150) 1 false),
 o1 152 (.data (.bin .neq) [.t 144,.t 151])])
 (.cond (.t 152)
 (.seq (.rg [o1 153 (.same 14),
 o1 154 (.same 153),
 o1 155 (.idx (.t 154)),
 o4 1 [0,101] (.store 0 [(1,4)] 3 (.t 155) (.c [.b] [.bool true]))])
 (.seq (.rg [o1 156 (.same 14),
 o1 160 (.same 14),
 o1 157 (.same 156),
 o1 158 (.idx (.t 157)),
 o1 159 (.load 0 [(1,4)] 0 (.t 158) 1 false),
 o1 161 (.same 160),
 o1 162 (.idx (.t 161)),
 o1 163 (.load 0 [(1,4)] 1 (.t 162) 1 false),
 o1 164 (.build [.i .i64,.i .i64] [(0,.t 159),(1,.t 163)]),
 o4 1 [6] (.store 6 [] 0 .nil (.t 164)),
 o1 7 (.lit [.b] [.bool true])])
 .ret))
 .skip))
 (.rg [o1 165 (.same 14),
 oc 166 10,
 o1 167 (.same 165),
 o1 168 (.idx (.t 167)),
 o4 1 [0,101] (.store 0 [(1,4)] 2 (.t 168) (.t 166))])))))))
 (.rg [o1 169 (.data (.bin .add) [.t 95,kD 1]),
 oc 95 169]))))))))
 (.seq (.rg [o1 170 (.build [.i .i64,.i .i64] []),
 o4 1 [6] (.store 6 [] 0 .nil (.t 170)),
 o1 7 (.lit [.b] [.bool false])])
 .ret))))))))
def s_iWeb_look:Sig:=⟨[.mp Ct4,.rd true [.d,.d],.rd false [.d]],(.tup [(true,2),(false,1)] [.d,.d,.d])⟩
def E_iWeb_look:TEnv:=envOf [(44,p_ilabelsAt),(79,p_isizes)]
def f_iWeb_look (n:Nat):(Int × List (Int × Int × Int × Bool)) × (Int × Int) × Int->Option ((Int × Int × Bool) × Int × List (Int × Int × Int × Bool)):=runFn n E_iWeb_look c_iWeb_look [Ty6,[.i .i64,.i .i64],[.i .i64]] [.i .i64,.i .i64,.b] Ty6 [6,7] (.mp 0)
def g_iWeb_look:=f_iWeb_look BIG
def p_iWeb_look:TSp:=⟨s_iWeb_look,[Ty6,[.i .i64,.i .i64],[.i .i64]],[.i .i64,.i .i64,.b],Ty6,Ou.j (.mp 0),g_iWeb_look⟩
theorem k_iWeb_look:chkW PG E_iWeb_look 40 s_iWeb_look (c_iWeb_look.ht 171) (.mp 0)=some (c_iWeb_look.wc E_iWeb_look,[6,7]):=by kernel_rfl
theorem ok_iWeb_look:p_iWeb_look.Ok PG 40:=mkOk (env_cons ok_ilabelsAt (env_cons ok_isizes (env_nil PG))) k_iWeb_look (by kernel_rfl)
theorem e_iWeb_look (n) (a0) (a1) (a2):f_iWeb_look n (a0,a1,a2) =
 Option.bind (g_ilabelsAt (a0,a2)) fun r0=>
 bnd r0.1.length a1.1 fun n1=>
 Option.bind r0.1[n1]? fun y2=>
 Option.bind (bnd r0.1.length a1.2 fun n3=>
  Option.bind r0.1[n3]? fun y4=>
  Option.bind (g_isizes (r0.1,y4)) fun r5=>
  bnd r0.1.length a1.1 fun n6=>
  Option.bind r0.1[n6]? fun y7=>
  Option.bind (g_isizes (r0.1,y7)) fun r8=>
  bif decide (r5.1<r8.1) then
   bnd r0.1.length a1.2 fun n9=>
   Option.bind r0.1[n9]? fun y10=>
   some y10
  else some y2:Option (Int)) fun x11=>
 Option.bind (loopT n (X:=(Int × List (Int × Int × Int × Bool)) × Int) (B:=(Int × List (Int × Int × Int × Bool))) (fun self13 x12=>
  bif decide (x12.2<(a0.2.length:Int)) then
   Option.bind (bnd x12.1.2.length x12.2 fun n14=>
    Option.bind (Option.bind x12.1.2[n14]? fun y15=>
     bif y15.2.2.2 then
      Option.bind x12.1.2[n14]? fun y16=>
      bif decide (y16.2.2.1=a2) then
       Option.bind x12.1.2[n14]? fun y17=>
       bnd r0.1.length y17.1 fun n18=>
       Option.bind r0.1[n18]? fun y19=>
       some (decide (y19=x11))
      else some false
     else some false:Option (Bool)) fun x20=>
    bif x20 then
     Option.bind x12.1.2[n14]? fun y21=>
     some (x12.1.1,x12.1.2.set n14 (y21.1,y21.2.1,(if (4:Int)<(IntKind.wrap .i64 (a2+(1:Int))) then (4:Int) else (IntKind.wrap .i64 (a2+(1:Int)))),y21.2.2.2))
    else some x12.1:Option ((Int × List (Int × Int × Int × Bool)))) fun x22=>
   self13 (x22,IntKind.wrap .i64 (x12.2+(1:Int)))
  else some x12.1) (a0,(0:Int)):Option ((Int × List (Int × Int × Int × Bool)))) fun x23=>
 Option.bind (loopT n (X:=(Int × List (Int × Int × Int × Bool)) × (Int × Int) × Int) (B:=((Int × List (Int × Int × Int × Bool)) × (Int × Int)) ⊕ ((Int × Int) × Bool × (Int × List (Int × Int × Int × Bool)))) (fun self25 x24=>
  bif decide (x24.2.2<(x23.2.length:Int)) then
   Option.bind (bnd x24.1.2.length x24.2.2 fun n26=>
    Option.bind (Option.bind x24.1.2[n26]? fun y27=>
     bif y27.2.2.2 then
      some true
     else Option.bind x24.1.2[n26]? fun y28=>
     bif !decide (y28.2.2.1=a2) then
      some true
     else Option.bind x24.1.2[n26]? fun y29=>
     bnd r0.1.length y29.1 fun n30=>
     Option.bind r0.1[n30]? fun y31=>
     bif !decide (y31=x11) then
      Option.bind x24.1.2[n26]? fun y32=>
      bnd r0.1.length y32.2.1 fun n33=>
      Option.bind r0.1[n33]? fun y34=>
      some (!decide (y34=x11))
     else some false:Option (Bool)) fun x35=>
    bif x35 then
     some (Sum.inl (x24.1,x24.2.1))
    else Option.bind x24.1.2[n26]? fun y36=>
    bnd r0.1.length y36.1 fun n37=>
    Option.bind r0.1[n37]? fun y38=>
    Option.bind x24.1.2[n26]? fun y39=>
    bnd r0.1.length y39.2.1 fun n40=>
    Option.bind r0.1[n40]? fun y41=>
    bif !decide (y38=y41) then
     Option.bind x24.1.2[n26]? fun y42=>
     Option.bind (x24.1.2.set n26 (y42.1,y42.2.1,y42.2.2.1,true))[n26]? fun y43=>
     Option.bind (x24.1.2.set n26 (y42.1,y42.2.1,y42.2.2.1,true))[n26]? fun y44=>
     some (Sum.inr ((y43.1,y44.2.1),true,(x24.1.1,x24.1.2.set n26 (y42.1,y42.2.1,y42.2.2.1,true))))
    else Option.bind x24.1.2[n26]? fun y45=>
    some (Sum.inl ((x24.1.1,x24.1.2.set n26 (y45.1,y45.2.1,(if (4:Int)<(IntKind.wrap .i64 (a2+(1:Int))) then (4:Int) else (IntKind.wrap .i64 (a2+(1:Int)))),y45.2.2.2)),x24.2.1)):Option (((Int × List (Int × Int × Int × Bool)) × (Int × Int)) ⊕ ((Int × Int) × Bool × (Int × List (Int × Int × Int × Bool))))) fun y=>match y with
   | .inl x46=>
    self25 (x46.1,x46.2,IntKind.wrap .i64 (x24.2.2+(1:Int)))
   | .inr x46=>
    some (Sum.inr (x46.1,x46.2.1,x46.2.2))
  else some (Sum.inl (x24.1,x24.2.1))) (x23,((0:Int),(0:Int)),(0:Int)):Option (((Int × List (Int × Int × Int × Bool)) × (Int × Int)) ⊕ ((Int × Int) × Bool × (Int × List (Int × Int × Int × Bool))))) fun y=>match y with
 | .inl x47=>
  some (((0:Int),(0:Int),false),x47.1)
 | .inr x47=>
  some ((x47.1.1,x47.1.2,x47.2.1),x47.2.2):=by kernel_rfl
def c_iWebTake:TC:=
 (.seq (.rg [o1 2 (.a (.t 0)),
 o1 3 (.a (.t 1)),
 o5 (.a (.c Ty6 [kV 0,.slice none 0 0])) 4 1000000005,
 o5 (.a (.c [.i .i64,.i .i64] [kV 0,kV 0])) 5 1000000006,
 o1 6 (.lit [.b] [.bool false]),
 o1 7 (.lit [.b] [.bool false])])
 (.seq (.seq (.join [⟨24,[.b],false⟩] 33521664 none (.rg [o1 15 (.load 2 [] 0 .nil 2 false),
 o3 16 14 [.t 15],
 o1 17 (.data .not [.t 16]),
 oc 18 17,
 o2 19 (.load 2 [] 0 .nil 2 false) 3 false,
 ⟨false,[],[],.call 1 8 [.t 19] .no,[20],(some 20),some (3,false)⟩,
 o2 21 (.load 3 [] 0 .nil 2 false) 3 false,
 ⟨false,[],[],.call 1 39 [.t 20,.t 21] .no,[22],(some 22),some (3,false)⟩,
 o2 23 (.data .not [.t 22]) 3 false,
 o7 18 (.c (.bool true)) (.t 23) 24]))
 (.cond (.t 24)
 (.seq (.rg [o1 25 (.build Ty6 []),
 o1 26 (.build [.i .i64,.i .i64] []),
 o4 2 [4,25] (.store 4 [] 0 .nil (.t 25)),
 o4 1 [5] (.store 5 [] 0 .nil (.t 26)),
 o1 6 (.lit [.b] [.bool false]),
 o1 7 (.lit [.b] [.bool false])])
 .ret)
 .skip))
 (.seq (.rg [oi 27,
 o1 28 (.load 2 [] 0 (.t 27) 1 false),
 o1 29 (.build Ty6 [(0,.t 28)]),
 o5 (.a (.c Ty6 [kV 0,.slice none 0 0])) 8 1000000009,
 o4 2 [8,29] (.store 8 [] 0 .nil (.t 29))])
 (.seq (.rg [o5 (.a (.c Ty11 [kV 0,kV 0,kV 0,.bool false])) 9 1000000010])
 (.seq (.join [⟨9,Ty11,false⟩,⟨8,Ty6,false⟩] 144115187002116864 none (.seq (.rg [oi 30,
 o1 31 (.load 2 [] 1 (.t 30) 1 false),
 o1 32 (.len 31),
 o1 33 (kL 0)])
 (.block 0 (.loop [⟨9,Ty11,false⟩,⟨8,Ty6,false⟩,⟨33,[.i .i64],false⟩] 144115179485924096
 (.seq (.rg [o1 34 (.data (.bin .lss) [.t 33,.t 32])])
 (.seq (.cond (.t 34)
 .skip
 (.exit 0))
 (.seq (.join [⟨9,Ty11,false⟩,⟨8,Ty6,false⟩] 72057559678192384 none (.block 1 (.seq (.rg [o1 35 (.index 31 (.t 33)),
 o1 36 (.load 31 [(0,4)] 0 (.t 35) 4 false),
 o5 (.a (.c Ty11 [kV 0,kV 0,kV 0,.bool false])) 11 1000000012,
 o4 1 [11] (.store 11 [] 0 .nil (.t 36))])
 (.seq (.seq (.join [⟨48,[.b],false⟩] 562812514467840 none (.rg [oi 37,
 o1 38 (.load 11 [] 0 (.t 37) 1 false),
 oi 39,
 o1 40 (.load 3 [] 0 (.t 39) 1 false),
 o1 41 (.data (.bin .eql) [.t 38,.t 40]),
 oc 42 41,
 o2 43 (.idx .nil) 5 true,
 o2 44 (.load 11 [] 1 (.t 43) 1 false) 5 true,
 o2 45 (.idx .nil) 5 true,
 o2 46 (.load 3 [] 1 (.t 45) 1 false) 5 true,
 o2 47 (.data (.bin .eql) [.t 44,.t 46]) 5 true,
 o7 42 (.t 47) (.c (.bool false)) 48]))
 (.cond (.t 48)
 (.seq (.rg [o1 49 (.load 11 [] 0 .nil 4 false),
 o4 1 [9] (.store 9 [] 0 .nil (.t 49))])
 (.exit 1))
 .skip))
 (.rg [oi 50,
 o1 51 (.load 8 [] 1 (.t 50) 1 true),
 o1 52 (.load 11 [] 0 .nil 4 false),
 o1 53 (.sli Ty11 [.t 52]),
 ⟨false,[51],[],.det 2 (.app (some 51) 53),[54,51,51,8],(some 54),none⟩,
 oi 55,
 o4 2 [8,54,51] (.store 8 [] 1 (.t 55) (.t 54))])))))
 (.rg [o1 56 (.data (.bin .add) [.t 33,kD 1]),
 oc 33 56]))))))))
 (.seq (.join [⟨8,Ty6,false⟩,⟨4,Ty6,false⟩,⟨5,[.i .i64,.i .i64],false⟩] 75557719610726247592432 (some [⟨4,Ty6,false⟩,⟨5,[.i .i64,.i .i64],false⟩,⟨6,[.b],false⟩,⟨7,[.b],false⟩]) (.seq (.rg [oi 57,
 o1 58 (.load 9 [] 2 (.t 57) 1 false),
 oc 12 58])
 (.block 2 (.loop [⟨8,Ty6,false⟩,⟨4,Ty6,false⟩,⟨5,[.i .i64,.i .i64],false⟩,⟨12,[.i .i64],false⟩] 75557287265162020024816
 (.seq (.seq (.join [⟨64,[.b],false⟩] 36317027395115679744 none (.rg [oc 59 12,
 o1 60 (.data (.bin .geq) [.t 59,kD 0]),
 oc 61 60,
 o2 62 (.idx .nil) 2 true,
 o2 63 (.load 9 [] 3 (.t 62) 1 false) 2 true,
 o7 61 (.t 63) (.c (.bool false)) 64]))
 (.cond (.t 64)
 .skip
 (.exit 2)))
 (.seq (.block 3 (.seq (.rg [o1 68 (.load 3 [] 0 .nil 2 false),
 oc 69 12,
 ⟨false,[],[],.call 2 40 [.t 8,.t 68,.t 69] (.mp 0),[70,8],(some 70),none⟩,
 o5 (.copy 70) 67 70,
 o1 71 (.ext 67 0 2),
 o1 72 (.ext 67 2 1),
 o5 (.a (.c [.i .i64,.i .i64] [kV 0,kV 0])) 13 1000000014,
 o4 1 [13] (.store 13 [] 0 .nil (.t 71)),
 oc 14 72])
 (.seq (.rg [oc 73 14])
 (.cond (.t 73)
 (.seq (.rg [o1 74 (.load 8 [] 0 .nil 2 true),
 ⟨false,[],[4,8],.det 1 (.load 13 [] 0 .nil 2 false),[75],(some 75),none⟩,
 ⟨false,[74],[],.det 2 (.store 4 [] 0 .nil (.t 74)),[4,74,74,8],none,none⟩,
 o4 1 [5] (.store 5 [] 0 .nil (.t 75)),
 o1 6 (.lit [.b] [.bool true]),
 o1 7 (.lit [.b] [.bool true])])
 .ret)
 .skip))))
 (.rg [oc 65 12,
 o1 66 (.data (.bin .sub) [.t 65,kD 1]),
 oc 12 66])))))))
 (.seq (.rg [o1 76 (.load 8 [] 0 .nil 2 true),
 o1 77 (.build [.i .i64,.i .i64] []),
 ⟨false,[76],[],.det 2 (.store 4 [] 0 .nil (.t 76)),[4,76,76,8],none,none⟩,
 o4 1 [5] (.store 5 [] 0 .nil (.t 77)),
 o1 6 (.lit [.b] [.bool false]),
 o1 7 (.lit [.b] [.bool true])])
 .ret)))))))
def s_iWebTake:Sig:=⟨[.rd true Ct4,.rd true [.d,.d]],(.tup [(true,2),(true,2),(false,1),(false,1)] [.d,.sl (.own none) [.d,.d,.d,.d],.d,.d,.d,.d])⟩
def E_iWebTake:TEnv:=envOf [(14,p_iWebOk),(8,p_iGraphOf),(39,p_iHasEdge),(40,p_iWeb_look)]
def f_iWebTake (n:Nat):(Int × List (Int × Int × Int × Bool)) × (Int × Int)->Option ((Int × List (Int × Int × Int × Bool) × Int × Int × Bool × Bool) × Unit):=runFn n E_iWebTake c_iWebTake [Ty6,[.i .i64,.i .i64]] Ty2 [] [4,5,6,7] .no
def g_iWebTake:=f_iWebTake BIG
def p_iWebTake:TSp:=⟨s_iWebTake,[Ty6,[.i .i64,.i .i64]],Ty2,[],Ou.j .no,g_iWebTake⟩
theorem k_iWebTake:chkW PG E_iWebTake 10 s_iWebTake (c_iWebTake.ht 78) .no=some (c_iWebTake.wc E_iWebTake,[4,5,6,7]):=by kernel_rfl
theorem ok_iWebTake:p_iWebTake.Ok PG 10:=mkOk (env_cons ok_iWebOk (env_cons ok_iGraphOf (env_cons ok_iHasEdge (env_cons ok_iWeb_look (env_nil PG))))) k_iWebTake (by kernel_rfl)
theorem e_iWebTake (n) (a0) (a1):f_iWebTake n (a0,a1) =
 Option.bind (Option.bind (g_iWebOk a0) fun r0=>
  bif !r0.1 then
   some true
  else Option.bind (g_iGraphOf a0) fun r1=>
  Option.bind (g_iHasEdge (r1.1,a1)) fun r2=>
  some !r2.1:Option (Bool)) fun x3=>
 bif x3 then
  some (((0:Int),[],(0:Int),(0:Int),false,false),())
 else Option.bind (loopT n (X:=(Int × Int × Int × Bool) × (Int × List (Int × Int × Int × Bool)) × Int) (B:=(Int × Int × Int × Bool) × (Int × List (Int × Int × Int × Bool))) (fun self5 x4=>
  bif decide (x4.2.2<(a0.2.length:Int)) then
   Option.bind (bnd a0.2.length x4.2.2 fun n6=>
    Option.bind a0.2[n6]? fun y7=>
    Option.bind (bif decide (y7.1=a1.1) then
     some (decide (y7.2.1=a1.2))
     else some false:Option (Bool)) fun x8=>
    bif x8 then
     some (y7,x4.2.1)
    else bif decide (x4.2.1.2.length+[y7].length<=4294967296) then
     some (x4.1,(x4.2.1.1,x4.2.1.2++[y7]))
    else none:Option ((Int × Int × Int × Bool) × (Int × List (Int × Int × Int × Bool)))) fun x9=>
   self5 (x9.1,x9.2,IntKind.wrap .i64 (x4.2.2+(1:Int)))
  else some (x4.1,x4.2.1)) (((0:Int),(0:Int),(0:Int),false),(a0.1,[]),(0:Int)):Option ((Int × Int × Int × Bool) × (Int × List (Int × Int × Int × Bool)))) fun x10=>
 Option.bind (loopT n (X:=(Int × List (Int × Int × Int × Bool)) × (Int × List (Int × Int × Int × Bool)) × (Int × Int) × Int) (B:=((Int × List (Int × Int × Int × Bool)) × (Int × List (Int × Int × Int × Bool)) × (Int × Int)) ⊕ ((Int × List (Int × Int × Int × Bool)) × (Int × Int) × Bool × Bool)) (fun self12 x11=>
  Option.bind (bif decide ((0:Int)<=x11.2.2.2) then
   some x10.1.2.2.2
   else some false:Option (Bool)) fun x13=>
  bif x13 then
   Option.bind (g_iWeb_look (x11.1,a1,x11.2.2.2)) fun r14=>
   bif r14.1.2.2 then
    some (Sum.inr (r14.2,(r14.1.1,r14.1.2.1),true,true))
   else self12 (r14.2,x11.2.1,x11.2.2.1,IntKind.wrap .i64 (x11.2.2.2-(1:Int)))
  else some (Sum.inl (x11.1,x11.2.1,x11.2.2.1))) (x10.2,((0:Int),[]),((0:Int),(0:Int)),x10.1.2.2.1):Option (((Int × List (Int × Int × Int × Bool)) × (Int × List (Int × Int × Int × Bool)) × (Int × Int)) ⊕ ((Int × List (Int × Int × Int × Bool)) × (Int × Int) × Bool × Bool))) fun y=>match y with
 | .inl x15=>
  some ((x15.1.1,x15.1.2,(0:Int),(0:Int),false,true),())
 | .inr x15=>
  some ((x15.1.1,x15.1.2,x15.2.1.1,x15.2.1.2,x15.2.2),()):=by kernel_rfl
def c_iShard_release:TC:=
 (.seq (.rg [o1 4 (.lit [.sl [.i .i64,.i .i64]] [.slice none 0 0])])
 (.seq (.rg [o1 5 (.lit [.sl [.i .i64,.i .i64]] [.slice none 0 0])])
 (.seq (.join [⟨0,Ty1,false⟩,⟨5,[.sl [.i .i64,.i .i64]],false⟩] 2251799813685153 none (.seq (.rg [o1 12 (.p0),
 o1 13 (.same 12),
 o1 14 (.load 0 [] 0 (.t 13) 7 true),
 o3 15 30 [.t 14],
 o1 16 (.len 15),
 o1 17 (kL 0)])
 (.block 0 (.loop [⟨0,Ty1,false⟩,⟨5,[.sl [.i .i64,.i .i64]],false⟩,⟨17,[.i .i64],false⟩] 2251799813574561
 (.seq (.rg [o1 18 (.data (.bin .lss) [.t 17,.t 16])])
 (.seq (.cond (.t 18)
 .skip
 (.exit 0))
 (.seq (.join [⟨0,Ty1,false⟩,⟨5,[.sl [.i .i64,.i .i64]],false⟩] 1125899906322337 none (.block 1 (.seq (.rg [o1 19 (.index 15 (.t 17)),
 o1 20 (.load 15 [(0,2)] 0 (.t 19) 2 false),
 o5 (.a (.c [.i .i64,.i .i64] [kV 0,kV 0])) 7 1000000008,
 o4 1 [7] (.store 7 [] 0 .nil (.t 20))])
 (.seq (.join [⟨30,[.b],false⟩] 2145386496 none (.rg [oi 21,
 o1 22 (.load 7 [] 0 (.t 21) 1 false),
 oc 23 1,
 o1 24 (.data (.bin .eql) [.t 22,.t 23]),
 oc 25 24,
 o2 26 (.idx .nil) 4 false,
 o2 27 (.load 7 [] 1 (.t 26) 1 false) 4 false,
 o2 28 (.copy 1) 4 false,
 o2 29 (.data (.bin .eql) [.t 27,.t 28]) 4 false,
 o7 25 (.c (.bool true)) (.t 29) 30]))
 (.cond (.t 30)
 (.seq (.rg [o1 32 (.p0),
 ⟨false,[],[1000000009,1000000010],.det 1 (.same 32),[33],(some 33),none⟩,
 ⟨false,[],[1000000009,1000000010],.det 1 (.idx (.t 33)),[34],(some 34),none⟩,
 ⟨false,[],[1000000009,1000000010],.det 1 (.load 0 [] 1 (.t 34) 2 true),[35],(some 35),none⟩,
 ⟨false,[],[1000000009,1000000010],.det 1 (.load 7 [] 0 .nil 2 false),[36],(some 36),none⟩,
 ⟨false,[],[1000000009,1000000010],.call 1 10 [.t 35,.t 36] .no,[37],(some 37),none⟩,
 ⟨false,[],[1000000009,1000000010],.det 2 (.copy 37),[31,37],(some 31),none⟩,
 ⟨false,[],[1000000009,1000000010],.det 2 (.ext 31 0 2),[38,31],(some 38),none⟩,
 ⟨false,[],[1000000009,1000000010],.det 1 (.ext 31 2 2),[39],(some 39),none⟩,
 ⟨false,[],[1000000009,1000000010],.det 1 (.ext 31 4 1),[40],(some 40),none⟩,
 ⟨false,[],[1000000009,1000000010],.det 1 (.ext 31 5 1),[41],(some 41),none⟩,
 ⟨false,[],[1000000010],.det 2 (.a (.c Ty6 [kV 0,.slice none 0 0])),[8,1000000009],(some 8),none⟩,
 ⟨false,[],[1000000009],.det 2 (.a (.c [.i .i64,.i .i64] [kV 0,kV 0])),[9,1000000010],(some 9),none⟩,
 o4 2 [8,38] (.store 8 [] 0 .nil (.t 38)),
 o4 1 [9] (.store 9 [] 0 .nil (.t 39)),
 oc 10 40,
 oc 11 41])
 (.seq (.rg [o1 42 (.p0),
 o1 43 (.load 8 [] 0 .nil 2 true),
 o1 44 (.same 42),
 o1 45 (.idx (.t 44)),
 ⟨false,[43],[],.det 2 (.store 0 [] 1 (.t 45) (.t 43)),[0,43,43,8,35],none,none⟩])
 (.rg [o5 (.copy 5) 46 5,
 o1 47 (.load 7 [] 0 .nil 2 false),
 o1 48 (.sli [.i .i64,.i .i64] [.t 47]),
 o5 (.app (some 46) 48) 49 46,
 o5 (.copy 49) 5 49])))
 .skip)))))
 (.rg [o1 50 (.data (.bin .add) [.t 17,kD 1]),
 oc 17 50]))))))))
 (.seq (.rg [o5 (.copy 5) 51 5,
 o5 (.copy 51) 4 51])
 .ret))))
def s_iShard_release:Sig:=⟨[.mp Ct0,.rd false [.d]],(.one false Ct6)⟩
def E_iShard_release:TEnv:=envOf [(30,p_iOwned),(10,p_iWebTake)]
def f_iShard_release (n:Nat):(Int × Int × List (Int × Int × Int × Bool) × Int × Bool × List (Int × Int) × List (Int)) × Int->Option ((List (Int × Int)) × Int × Int × List (Int × Int × Int × Bool) × Int × Bool × List (Int × Int) × List (Int)):=runFn n E_iShard_release c_iShard_release [Ty1,[.i .i64]] [.sl [.i .i64,.i .i64]] Ty1 [4] (.mp 0)
def g_iShard_release:=f_iShard_release BIG
def p_iShard_release:TSp:=⟨s_iShard_release,[Ty1,[.i .i64]],[.sl [.i .i64,.i .i64]],Ty1,Ou.j (.mp 0),g_iShard_release⟩
theorem k_iShard_release:chkW PG E_iShard_release 64 s_iShard_release (c_iShard_release.ht 52) (.mp 0)=some (c_iShard_release.wc E_iShard_release,[4]):=by kernel_rfl
theorem ok_iShard_release:p_iShard_release.Ok PG 64:=mkOk (env_cons ok_iOwned (env_cons ok_iWebTake (env_nil PG))) k_iShard_release (by kernel_rfl)
theorem e_iShard_release (n) (a0) (a1):f_iShard_release n (a0,a1) =
 Option.bind (Option.bind (g_iOwned a0) fun r0=>
 loopT n (X:=(Int × Int × List (Int × Int × Int × Bool) × Int × Bool × List (Int × Int) × List (Int)) × (List (Int × Int)) × Int) (B:=(Int × Int × List (Int × Int × Int × Bool) × Int × Bool × List (Int × Int) × List (Int)) × (List (Int × Int))) (fun self2 x1=>
 bif decide (x1.2.2<(r0.1.length:Int)) then
 Option.bind (bnd r0.1.length x1.2.2 fun n3=>
 Option.bind r0.1[n3]? fun y4=>
 Option.bind (bif decide (y4.1=a1) then
 some true
 else some (decide (y4.2=a1)):Option (Bool)) fun x5=>
 bif x5 then
 Option.bind (g_iWebTake ((x1.1.2.1,x1.1.2.2.1),y4)) fun r6=>
 bif decide (x1.2.1.length+[y4].length<=4294967296) then
 some ((x1.1.1,r6.1.1,r6.1.2.1,x1.1.2.2.2),x1.2.1++[y4])
 else none
 else some (x1.1,x1.2.1):Option ((Int × Int × List (Int × Int × Int × Bool) × Int × Bool × List (Int × Int) × List (Int)) × (List (Int × Int)))) fun x7=>
 self2 (x7.1,x7.2,IntKind.wrap .i64 (x1.2.2+(1:Int)))
 else some (x1.1,x1.2.1)) (a0,[],(0:Int)):Option ((Int × Int × List (Int × Int × Int × Bool) × Int × Bool × List (Int × Int) × List (Int)) × (List (Int × Int)))) fun x8=>
 some (x8.2,x8.1):=by kernel_rfl
def c_iwithEdge:TC:=
 (.seq (.rg [o1 3 (.a (.t 1)),
 o1 4 (.lit [.sl [.i .i64,.i .i64]] [.slice none 0 0])])
 (.seq (.rg [o1 5 (kL 0)])
 (.seq (.join [⟨5,[.i .i64],false⟩] 1048544 none (.block 0 (.loop [⟨5,[.i .i64],false⟩] 1048544
 (.seq (.seq (.join [⟨17,[.b],false⟩] 262080 none (.rg [oc 6 5,
 oc 7 0,
 o1 8 (.len 7),
 o1 9 (.data (.bin .lss) [.t 6,.t 8]),
 oc 10 9,
 o2 11 (.copy 0) 4 true,
 o2 12 (.copy 5) 4 true,
 o2 13 (.index 11 (.t 12)) 4 true,
 o2 14 (.load 11 [(0,2)] 0 (.t 13) 2 false) 4 true,
 o2 15 (.load 3 [] 0 .nil 2 false) 4 true,
 ⟨false,[],[],.call 1 45 [.t 14,.t 15] .no,[16],(some 16),some (4,true)⟩,
 o7 10 (.t 16) (.c (.bool false)) 17]))
 (.cond (.t 17)
 .skip
 (.exit 0)))
 (.block 1 (.rg [oc 18 5,
 o1 19 (.data (.bin .add) [.t 18,kD 1]),
 oc 5 19]))))))
 (.seq (.rg [oc 20 0,
 oc 21 5,
 oc 27 0,
 oc 28 5,
 o1 22 (.res 20 none (some (.t 21))),
 o1 23 (.app none 22),
 o1 24 (.load 3 [] 0 .nil 2 false),
 o1 25 (.sli [.i .i64,.i .i64] [.t 24]),
 o5 (.app (some 23) 25) 26 23,
 o1 29 (.res 27 (some (.t 28)) none),
 o5 (.app (some 26) 29) 30 26,
 o5 (.copy 30) 4 30])
 .ret))))
def s_iwithEdge:Sig:=⟨[.rd false Ct6,.rd true [.d,.d]],(.one false Ct6)⟩
def E_iwithEdge:TEnv:=envOf [(45,p_iahead)]
def f_iwithEdge (n:Nat):(List (Int × Int)) × (Int × Int)->Option ((List (Int × Int)) × Unit):=runFn n E_iwithEdge c_iwithEdge [[.sl [.i .i64,.i .i64]],[.i .i64,.i .i64]] [.sl [.i .i64,.i .i64]] [] [4] .no
def g_iwithEdge:=f_iwithEdge BIG
def p_iwithEdge:TSp:=⟨s_iwithEdge,[[.sl [.i .i64,.i .i64]],[.i .i64,.i .i64]],[.sl [.i .i64,.i .i64]],[],Ou.j .no,g_iwithEdge⟩
theorem k_iwithEdge:chkW PG E_iwithEdge 82 s_iwithEdge (c_iwithEdge.ht 31) .no=some (c_iwithEdge.wc E_iwithEdge,[4]):=by kernel_rfl
theorem ok_iwithEdge:p_iwithEdge.Ok PG 82:=mkOk (env_cons ok_iahead (env_nil PG)) k_iwithEdge (by kernel_rfl)
theorem e_iwithEdge (n) (a0) (a1):f_iwithEdge n (a0,a1) =
 Option.bind (loopT n (X:=Int) (B:=Int) (fun self1 x0=>
 Option.bind (bif decide (x0<(a0.length:Int)) then
 bnd a0.length x0 fun n2=>
 Option.bind a0[n2]? fun y3=>
 Option.bind (g_iahead (y3,a1)) fun r4=>
 some r4.1
 else some false:Option (Bool)) fun x5=>
 bif x5 then
 self1 (IntKind.wrap .i64 (x0+(1:Int)))
 else some x0) (0:Int):Option (Int)) fun x6=>
 bif decide (0<=x6) then
 bif decide (0<=(Int.toNat x6)/\(Int.toNat x6)<=a0.length) then
 bif decide ((List.take ((Int.toNat x6)-0) (List.drop 0 a0)).length<=4294967296) then
 bif decide ((List.take ((Int.toNat x6)-0) (List.drop 0 a0)).length+[a1].length<=4294967296) then
 bif decide (0<=x6) then
 bif decide ((Int.toNat x6)<=a0.length/\a0.length<=a0.length) then
 bif decide (((List.take ((Int.toNat x6)-0) (List.drop 0 a0))++[a1]).length+(List.take (a0.length-(Int.toNat x6)) (List.drop (Int.toNat x6) a0)).length<=4294967296) then
 some (((List.take ((Int.toNat x6)-0) (List.drop 0 a0))++[a1])++(List.take (a0.length-(Int.toNat x6)) (List.drop (Int.toNat x6) a0)),())
 else none
 else none
 else none
 else none
 else none
 else none
 else none:=by kernel_rfl
def c_iAddEdge:TC:=
 (.seq (.rg [o1 2 (.a (.t 0)),
 o1 3 (.a (.t 1)),
 o5 (.a (.c Ty9 [kV 0,.slice none 0 0])) 4 1000000005,
 o1 5 (.lit [.b] [.bool false])])
 (.seq (.seq (.join [⟨20,[.b],false⟩] 2097088 none (.rg [o1 6 (.load 2 [] 0 .nil 2 false),
 o3 7 49 [.t 6],
 o1 8 (.data .not [.t 7]),
 oc 9 8,
 o2 10 (.idx .nil) 3 false,
 o2 11 (.load 2 [] 0 (.t 10) 1 false) 3 false,
 o2 12 (.load 3 [] 0 .nil 2 false) 3 false,
 ⟨false,[],[],.call 1 81 [.t 11,.t 12] .no,[13],(some 13),some (3,false)⟩,
 o2 14 (.data .not [.t 13]) 3 false,
 o7 9 (.c (.bool true)) (.t 14) 15,
 oc 16 15,
 o2 17 (.load 2 [] 0 .nil 2 false) 10 false,
 o2 18 (.load 3 [] 0 .nil 2 false) 10 false,
 ⟨false,[],[],.call 1 39 [.t 17,.t 18] .no,[19],(some 19),some (10,false)⟩,
 o7 16 (.c (.bool true)) (.t 19) 20]))
 (.cond (.t 20)
 (.seq (.rg [o1 21 (.build Ty9 []),
 o4 2 [4,21] (.store 4 [] 0 .nil (.t 21)),
 o1 5 (.lit [.b] [.bool false])])
 .ret)
 .skip))
 (.seq (.rg [oi 22,
 o1 23 (.load 2 [] 0 (.t 22) 1 false),
 oi 24,
 o1 25 (.load 2 [] 1 (.t 24) 1 false),
 o1 26 (.load 3 [] 0 .nil 2 false),
 o3 27 82 [.t 25,.t 26],
 o5 (.build Ty9 [(0,.t 23),(1,.t 27)]) 28 27,
 o4 2 [4,28] (.store 4 [] 0 .nil (.t 28)),
 o1 5 (.lit [.b] [.bool true])])
 .ret)))
def s_iAddEdge:Sig:=⟨[.rd true Ct5,.rd true [.d,.d]],(.tup [(true,2),(false,1)] [.d,.sl (.own none) [.d,.d],.d])⟩
def E_iAddEdge:TEnv:=envOf [(49,p_iGraphOk),(81,p_iEdgeOk),(39,p_iHasEdge),(82,p_iwithEdge)]
def f_iAddEdge (n:Nat):(Int × List (Int × Int)) × (Int × Int)->Option ((Int × List (Int × Int) × Bool) × Unit):=runFn n E_iAddEdge c_iAddEdge [Ty9,[.i .i64,.i .i64]] Ty7 [] [4,5] .no
def g_iAddEdge:=f_iAddEdge BIG
def p_iAddEdge:TSp:=⟨s_iAddEdge,[Ty9,[.i .i64,.i .i64]],Ty7,[],Ou.j .no,g_iAddEdge⟩
theorem k_iAddEdge:chkW PG E_iAddEdge 43 s_iAddEdge (c_iAddEdge.ht 29) .no=some (c_iAddEdge.wc E_iAddEdge,[4,5]):=by kernel_rfl
theorem ok_iAddEdge:p_iAddEdge.Ok PG 43:=mkOk (env_cons ok_iGraphOk (env_cons ok_iEdgeOk (env_cons ok_iHasEdge (env_cons ok_iwithEdge (env_nil PG))))) k_iAddEdge (by kernel_rfl)
theorem e_iAddEdge (n) (a0) (a1):f_iAddEdge n (a0,a1) =
 Option.bind (Option.bind (g_iGraphOk a0) fun r0=>
 bif !r0.1 then
 some true
 else Option.bind (g_iEdgeOk (a0.1,a1)) fun r1=>
 bif !r1.1 then
 some true
 else Option.bind (g_iHasEdge (a0,a1)) fun r2=>
 some r2.1:Option (Bool)) fun x3=>
 bif x3 then
 some (((0:Int),[],false),())
 else Option.bind (g_iwithEdge (a0.2,a1)) fun r4=>
 some ((a0.1,r4.1,true),()):=by kernel_rfl
def c_iWebAdd:TC:=
 (.seq (.rg [o1 2 (.a (.t 0)),
 o1 3 (.a (.t 1)),
 o5 (.a (.c Ty6 [kV 0,.slice none 0 0])) 4 1000000005,
 o1 5 (.lit [.b] [.bool false])])
 (.seq (.seq (.rg [⟨false,[],[1000000007],.det 1 (.load 2 [] 0 .nil 2 false),[12],(some 12),none⟩,
 ⟨false,[],[1000000007],.call 1 8 [.t 12] .no,[13],(some 13),none⟩,
 ⟨false,[],[1000000007],.det 1 (.load 3 [] 0 .nil 2 false),[14],(some 14),none⟩,
 ⟨false,[],[1000000007],.call 1 43 [.t 13,.t 14] .no,[15],(some 15),none⟩,
 ⟨false,[],[1000000007],.det 2 (.copy 15),[11,15],(some 11),none⟩,
 ⟨false,[],[1000000007],.det 2 (.ext 11 0 2),[16,11],(some 16),none⟩,
 ⟨false,[],[1000000007],.det 1 (.ext 11 2 1),[17],(some 17),none⟩,
 o5 (.a (.c Ty9 [kV 0,.slice none 0 0])) 6 1000000007,
 o4 2 [6,16] (.store 6 [] 0 .nil (.t 16)),
 oc 7 17])
 (.seq (.join [⟨24,[.b],false⟩] 33292288 none (.rg [o1 18 (.load 2 [] 0 .nil 2 false),
 o3 19 14 [.t 18],
 o1 20 (.data .not [.t 19]),
 oc 21 20,
 o2 22 (.copy 7) 3 false,
 o2 23 (.data .not [.t 22]) 3 false,
 o7 21 (.c (.bool true)) (.t 23) 24]))
 (.cond (.t 24)
 (.seq (.rg [o1 25 (.build Ty6 []),
 o4 2 [4,25] (.store 4 [] 0 .nil (.t 25)),
 o1 5 (.lit [.b] [.bool false])])
 .ret)
 .skip)))
 (.seq (.rg [o1 26 (.load 2 [] 0 .nil 2 false),
 o3 27 44 [.t 26,kO 0],
 o5 (.copy 27) 8 27])
 (.seq (.rg [o1 9 (kL 0)])
 (.seq (.join [⟨9,[.i .i64],false⟩] 4503599358935552 none (.block 0 (.loop [⟨9,[.i .i64],false⟩] 4503599358935552
 (.seq (.seq (.join [⟨49,[.b],false⟩] 1125899638407168 none (.rg [oc 28 9,
 oi 29,
 o1 30 (.load 2 [] 1 (.t 29) 1 false),
 o1 31 (.len 30),
 o1 32 (.data (.bin .lss) [.t 28,.t 31]),
 oc 33 32,
 o2 34 (.idx .nil) 5 true,
 o2 35 (.load 2 [] 1 (.t 34) 1 false) 5 true,
 o2 36 (.copy 9) 5 true,
 o2 37 (.index 35 (.t 36)) 5 true,
 o2 38 (.idx (.t 37)) 5 true,
 o2 39 (.load 35 [(0,4)] 0 (.t 38) 1 false) 5 true,
 o2 40 (.idx .nil) 5 true,
 o2 41 (.load 2 [] 1 (.t 40) 1 false) 5 true,
 o2 42 (.copy 9) 5 true,
 o2 43 (.index 41 (.t 42)) 5 true,
 o2 44 (.idx (.t 43)) 5 true,
 o2 45 (.load 41 [(0,4)] 1 (.t 44) 1 false) 5 true,
 o2 46 (.build [.i .i64,.i .i64] [(0,.t 39),(1,.t 45)]) 5 true,
 o2 47 (.load 3 [] 0 .nil 2 false) 5 true,
 ⟨false,[],[],.call 1 45 [.t 46,.t 47] .no,[48],(some 48),some (5,true)⟩,
 o7 33 (.t 48) (.c (.bool false)) 49]))
 (.cond (.t 49)
 .skip
 (.exit 0)))
 (.block 1 (.rg [oc 50 9,
 o1 51 (.data (.bin .add) [.t 50,kD 1]),
 oc 9 51]))))))
 (.seq (.rg [oc 56 9,
 ⟨false,[],[1000000011],.det 1 (.idx .nil),[52],(some 52),none⟩,
 ⟨false,[],[1000000011],.det 1 (.load 2 [] 0 (.t 52) 1 false),[53],(some 53),none⟩,
 ⟨false,[],[1000000011],.det 1 (.idx .nil),[54],(some 54),none⟩,
 ⟨false,[],[1000000011],.det 1 (.load 2 [] 1 (.t 54) 1 false),[55],(some 55),none⟩,
 ⟨false,[],[1000000011],.det 1 (.res 55 none (some (.t 56))),[57],(some 57),none⟩,
 ⟨false,[],[1000000011],.det 1 (.build Ty6 [(0,.t 53),(1,.t 57)]),[58],(some 58),none⟩,
 ⟨false,[],[1000000011],.call 1 46 [.t 58] .no,[59],(some 59),none⟩,
 o5 (.a (.c Ty6 [kV 0,.slice none 0 0])) 10 1000000011,
 o4 2 [10,59] (.store 10 [] 0 .nil (.t 59))])
 (.seq (.rg [o6 66 8,
 o6 71 8,
 oc 82 9,
 ⟨false,[],[1000000003],.det 1 (.idx .nil),[60],(some 60),none⟩,
 ⟨false,[],[1000000003],.det 1 (.load 10 [] 1 (.t 60) 1 true),[61],(some 61),none⟩,
 oi 62,
 o1 63 (.load 3 [] 0 (.t 62) 1 false),
 oi 64,
 o1 65 (.load 3 [] 1 (.t 64) 1 false),
 oi 67,
 o1 68 (.load 3 [] 0 (.t 67) 1 false),
 o1 69 (.index 66 (.t 68)),
 o1 70 (.load 8 [(0,1)] 0 (.t 69) 1 false),
 oi 72,
 o1 73 (.load 3 [] 1 (.t 72) 1 false),
 o1 74 (.index 71 (.t 73)),
 o1 75 (.load 8 [(0,1)] 0 (.t 74) 1 false),
 o1 76 (.data (.bin .neq) [.t 70,.t 75]),
 o5 (.build Ty11 [(0,.t 63),(1,.t 65),(2,kO 0),(3,.t 76)]) 77 1000000003,
 o1 78 (.sli Ty11 [.t 77]),
 ⟨false,[61],[],.det 2 (.app (some 61) 78),[79,61,61,10],(some 79),none⟩,
 ⟨false,[],[1000000003,10],.det 1 (.idx .nil),[80],(some 80),none⟩,
 ⟨false,[],[1000000003,10],.det 1 (.load 2 [] 1 (.t 80) 1 false),[81],(some 81),none⟩,
 ⟨false,[],[1000000003,10],.det 1 (.res 81 (some (.t 82)) none),[83],(some 83),none⟩,
 o5 (.app (some 79) 83) 84 79,
 oi 85,
 o4 2 [10,84,61] (.store 10 [] 1 (.t 85) (.t 84))])
 (.seq (.rg [o1 86 (.load 10 [] 0 .nil 2 true),
 ⟨false,[86],[],.det 2 (.store 4 [] 0 .nil (.t 86)),[4,86,86,10],none,none⟩,
 o1 5 (.lit [.b] [.bool true])])
 .ret))))))))
def s_iWebAdd:Sig:=⟨[.rd true Ct4,.rd true [.d,.d]],(.tup [(true,2),(false,1)] Ct2)⟩
def E_iWebAdd:TEnv:=envOf [(8,p_iGraphOf),(43,p_iAddEdge),(14,p_iWebOk),(44,p_ilabelsAt),(45,p_iahead),(46,p_icopyWeb)]
def f_iWebAdd (n:Nat):(Int × List (Int × Int × Int × Bool)) × (Int × Int)->Option ((Int × List (Int × Int × Int × Bool) × Bool) × Unit):=runFn n E_iWebAdd c_iWebAdd [Ty6,[.i .i64,.i .i64]] Ty5 [] [4,5] .no
def g_iWebAdd:=f_iWebAdd BIG
def p_iWebAdd:TSp:=⟨s_iWebAdd,[Ty6,[.i .i64,.i .i64]],Ty5,[],Ou.j .no,g_iWebAdd⟩
theorem k_iWebAdd:chkW PG E_iWebAdd 12 s_iWebAdd (c_iWebAdd.ht 87) .no=some (c_iWebAdd.wc E_iWebAdd,[4,5]):=by kernel_rfl
theorem ok_iWebAdd:p_iWebAdd.Ok PG 12:=mkOk (env_cons ok_iGraphOf (env_cons ok_iAddEdge (env_cons ok_iWebOk (env_cons ok_ilabelsAt (env_cons ok_iahead (env_cons ok_icopyWeb (env_nil PG))))))) k_iWebAdd (by kernel_rfl)
theorem e_iWebAdd (n) (a0) (a1):f_iWebAdd n (a0,a1) =
 Option.bind (g_iGraphOf a0) fun r0=>
 Option.bind (g_iAddEdge (r0.1,a1)) fun r1=>
 Option.bind (Option.bind (g_iWebOk a0) fun r2=>
 bif !r2.1 then
 some true
 else some !r1.1.2.2:Option (Bool)) fun x3=>
 bif x3 then
 some (((0:Int),[],false),())
 else Option.bind (g_ilabelsAt (a0,(0:Int))) fun r4=>
 Option.bind (loopT n (X:=Int) (B:=Int) (fun self6 x5=>
 Option.bind (bif decide (x5<(a0.2.length:Int)) then
 bnd a0.2.length x5 fun n7=>
 Option.bind a0.2[n7]? fun y8=>
 bnd a0.2.length x5 fun n9=>
 Option.bind a0.2[n9]? fun y10=>
 Option.bind (g_iahead ((y8.1,y10.2.1),a1)) fun r11=>
 some r11.1
 else some false:Option (Bool)) fun x12=>
 bif x12 then
 self6 (IntKind.wrap .i64 (x5+(1:Int)))
 else some x5) (0:Int):Option (Int)) fun x13=>
 bif decide (0<=x13) then
 bif decide (0<=(Int.toNat x13)/\(Int.toNat x13)<=a0.2.length) then
 Option.bind (g_icopyWeb (a0.1,List.take ((Int.toNat x13)-0) (List.drop 0 a0.2))) fun r14=>
 bnd r4.1.length a1.1 fun n15=>
 Option.bind r4.1[n15]? fun y16=>
 bnd r4.1.length a1.2 fun n17=>
 Option.bind r4.1[n17]? fun y18=>
 bif decide (r14.1.2.length+([(a1.1,a1.2,(0:Int),!decide (y16=y18))]).length<=4294967296) then
 bif decide (0<=x13) then
 bif decide ((Int.toNat x13)<=a0.2.length/\a0.2.length<=a0.2.length) then
 bif decide ((r14.1.2++([(a1.1,a1.2,(0:Int),!decide (y16=y18))])).length+(List.take (a0.2.length-(Int.toNat x13)) (List.drop (Int.toNat x13) a0.2)).length<=4294967296) then
 some ((r14.1.1,(r14.1.2++([(a1.1,a1.2,(0:Int),!decide (y16=y18))]))++(List.take (a0.2.length-(Int.toNat x13)) (List.drop (Int.toNat x13) a0.2)),true),())
 else none
 else none
 else none
 else none
 else none
 else none:=by kernel_rfl
def c_iShard_accept:TC:=
 (.seq (.rg [o1 4 (.lit [.b] [.bool false])])
 (.seq (.rg [o1 5 (.lit [.b] [.bool true])])
 (.seq (.join [⟨0,Ty1,false⟩,⟨5,[.b],false⟩] 34359738273 none (.seq (.rg [oc 10 1,
 o1 11 (.len 10),
 o1 12 (kL 0)])
 (.block 0 (.loop [⟨0,Ty1,false⟩,⟨5,[.b],false⟩,⟨12,[.i .i64],false⟩] 34359735201
 (.seq (.rg [o1 13 (.data (.bin .lss) [.t 12,.t 11])])
 (.seq (.cond (.t 13)
 .skip
 (.exit 0))
 (.seq (.join [⟨0,Ty1,false⟩,⟨5,[.b],false⟩] 17179853729 none (.block 1 (.seq (.rg [o1 14 (.index 10 (.t 12)),
 o1 15 (.load 10 [(0,2)] 0 (.t 14) 2 false),
 o5 (.a (.c [.i .i64,.i .i64] [kV 0,kV 0])) 7 1000000008,
 o4 1 [7] (.store 7 [] 0 .nil (.t 15))])
 (.seq (.rg [o1 17 (.p0),
 ⟨false,[],[1000000009],.det 1 (.same 17),[18],(some 18),none⟩,
 ⟨false,[],[1000000009],.det 1 (.idx (.t 18)),[19],(some 19),none⟩,
 ⟨false,[],[1000000009],.det 1 (.load 0 [] 1 (.t 19) 2 true),[20],(some 20),none⟩,
 ⟨false,[],[1000000009],.det 1 (.load 7 [] 0 .nil 2 false),[21],(some 21),none⟩,
 ⟨false,[],[1000000009],.call 1 12 [.t 20,.t 21] .no,[22],(some 22),none⟩,
 ⟨false,[],[1000000009],.det 2 (.copy 22),[16,22],(some 16),none⟩,
 ⟨false,[],[1000000009],.det 2 (.ext 16 0 2),[23,16],(some 23),none⟩,
 ⟨false,[],[1000000009],.det 1 (.ext 16 2 1),[24],(some 24),none⟩,
 o5 (.a (.c Ty6 [kV 0,.slice none 0 0])) 8 1000000009,
 o4 2 [8,23] (.store 8 [] 0 .nil (.t 23)),
 oc 9 24])
 (.seq (.join [⟨0,Ty1,false⟩] 1041236225 none (.seq (.rg [oc 25 9])
 (.cond (.t 25)
 (.rg [o1 26 (.p0),
 o1 27 (.load 8 [] 0 .nil 2 true),
 o1 28 (.same 26),
 o1 29 (.idx (.t 28)),
 ⟨false,[27],[],.det 2 (.store 0 [] 1 (.t 29) (.t 27)),[0,27,27,8,20],none,none⟩])
 .skip)))
 (.join [⟨5,[.b],false⟩] 16106127392 none (.rg [oc 30 5,
 oc 31 30,
 o2 32 (.copy 9) 1 true,
 o7 31 (.t 32) (.c (.bool false)) 33,
 oc 5 33])))))))
 (.rg [o1 34 (.data (.bin .add) [.t 12,kD 1]),
 oc 12 34]))))))))
 (.seq (.rg [oc 35 5,
 oc 4 35])
 .ret))))
def s_iShard_accept:Sig:=⟨[.mp Ct0,.rd false Ct6],(.one false [.d])⟩
def E_iShard_accept:TEnv:=envOf [(12,p_iWebAdd)]
def f_iShard_accept (n:Nat):(Int × Int × List (Int × Int × Int × Bool) × Int × Bool × List (Int × Int) × List (Int)) × (List (Int × Int))->Option ((Bool) × Int × Int × List (Int × Int × Int × Bool) × Int × Bool × List (Int × Int) × List (Int)):=runFn n E_iShard_accept c_iShard_accept [Ty1,[.sl [.i .i64,.i .i64]]] [.b] Ty1 [4] (.mp 0)
def g_iShard_accept:=f_iShard_accept BIG
def p_iShard_accept:TSp:=⟨s_iShard_accept,[Ty1,[.sl [.i .i64,.i .i64]]],[.b],Ty1,Ou.j (.mp 0),g_iShard_accept⟩
theorem k_iShard_accept:chkW PG E_iShard_accept 65 s_iShard_accept (c_iShard_accept.ht 36) (.mp 0)=some (c_iShard_accept.wc E_iShard_accept,[4]):=by kernel_rfl
theorem ok_iShard_accept:p_iShard_accept.Ok PG 65:=mkOk (env_cons ok_iWebAdd (env_nil PG)) k_iShard_accept (by kernel_rfl)
theorem e_iShard_accept (n) (a0) (a1):f_iShard_accept n (a0,a1) =
 Option.bind (loopT n (X:=(Int × Int × List (Int × Int × Int × Bool) × Int × Bool × List (Int × Int) × List (Int)) × Bool × Int) (B:=(Int × Int × List (Int × Int × Int × Bool) × Int × Bool × List (Int × Int) × List (Int)) × Bool) (fun self1 x0=>
 bif decide (x0.2.2<(a1.length:Int)) then
 Option.bind (bnd a1.length x0.2.2 fun n2=>
 Option.bind a1[n2]? fun y3=>
 Option.bind (g_iWebAdd ((x0.1.2.1,x0.1.2.2.1),y3)) fun r4=>
 Option.bind (bif r4.1.2.2 then
 some (x0.1.1,r4.1.1,r4.1.2.1,x0.1.2.2.2)
 else some x0.1:Option ((Int × Int × List (Int × Int × Int × Bool) × Int × Bool × List (Int × Int) × List (Int)))) fun x5=>
 Option.bind (bif x0.2.1 then
 some r4.1.2.2
 else some false:Option (Bool)) fun x6=>
 some (x5,x6):Option ((Int × Int × List (Int × Int × Int × Bool) × Int × Bool × List (Int × Int) × List (Int)) × Bool)) fun x7=>
 self1 (x7.1,x7.2,IntKind.wrap .i64 (x0.2.2+(1:Int)))
 else some (x0.1,x0.2.1)) (a0,true,(0:Int)):Option ((Int × Int × List (Int × Int × Int × Bool) × Int × Bool × List (Int × Int) × List (Int)) × Bool)) fun x8=>
 some (x8.2,x8.1):=by kernel_rfl
def c_iObey:TC:=
 (.seq (.rg [o1 2 (.a (.t 0)),
 o1 3 (.a (.t 1)),
 o5 (.a (.c Ty1 [kV 0,kV 0,.slice none 0 0,kV 0,.bool false,.slice none 0 0,.slice none 0 0])) 4 1000000005,
 o5 (.a (.c Ty3 [kV 0,.bool false,.slice none 0 0,.slice none 0 0])) 5 1000000006,
 o1 6 (kL 0)])
 (.seq (.seq (.join [⟨40,[.b],false⟩] 2199023247360 none (.rg [o1 13 (.load 2 [] 0 .nil 7 false),
 o3 14 26 [.t 13],
 o1 15 (.data .not [.t 14]),
 oc 16 15,
 o2 17 (.idx .nil) 3 false,
 o2 18 (.idx (.t 17)) 3 false,
 o2 19 (.load 2 [] 1 (.t 18) 1 false) 3 false,
 o2 20 (.load 3 [] 0 .nil 4 false) 3 false,
 ⟨false,[],[],.call 1 61 [.t 19,.t 20] .no,[21],(some 21),some (3,false)⟩,
 o2 22 (.data .not [.t 21]) 3 false,
 o7 16 (.c (.bool true)) (.t 22) 23,
 oc 24 23,
 o2 25 (.idx .nil) 11 false,
 o2 26 (.load 3 [] 0 (.t 25) 1 false) 11 false,
 o2 27 (.idx .nil) 11 false,
 o2 28 (.idx (.t 27)) 11 false,
 o2 29 (.load 2 [] 3 (.t 28) 1 false) 11 false,
 o2 30 (.data (.bin .neq) [.t 26,.t 29]) 11 false,
 o2 31 (.copy 30) 11 false,
 o2 32 (.idx .nil) 18 true,
 o2 33 (.load 3 [] 0 (.t 32) 1 false) 18 true,
 o2 34 (.idx .nil) 18 true,
 o2 35 (.idx (.t 34)) 18 true,
 o2 36 (.load 2 [] 3 (.t 35) 1 false) 18 true,
 o2 37 (.data (.bin .add) [.t 36,kD 1]) 18 true,
 o2 38 (.data (.bin .neq) [.t 33,.t 37]) 18 true,
 ⟨false,[],[],.pick 31 (.t 38) (.c (.bool false)),[39],(some 39),some (11,false)⟩,
 o7 24 (.c (.bool true)) (.t 39) 40]))
 (.cond (.t 40)
 (.seq (.rg [o1 41 (.build Ty1 []),
 o1 42 (.build Ty3 []),
 o4 2 [4,41] (.store 4 [] 0 .nil (.t 41)),
 o4 2 [5,42] (.store 5 [] 0 .nil (.t 42)),
 o1 6 (kL 1)])
 .ret)
 .skip))
 (.seq (.rg [o1 43 (.load 2 [] 0 .nil 7 false),
 o3 44 62 [.t 43],
 o5 (.a (.c Ty1 [kV 0,kV 0,.slice none 0 0,kV 0,.bool false,.slice none 0 0,.slice none 0 0])) 7 1000000008,
 o4 2 [7,44] (.store 7 [] 0 .nil (.t 44))])
 (.seq (.seq (.rg [oi 45,
 o1 46 (.load 3 [] 0 (.t 45) 1 false),
 oi 47,
 o1 48 (.idx (.t 47)),
 o1 49 (.load 2 [] 3 (.t 48) 1 false),
 o1 50 (.data (.bin .eql) [.t 46,.t 49])])
 (.cond (.t 50)
 (.seq (.rg [o1 51 (.load 7 [] 0 .nil 7 true),
 oi 52,
 o1 53 (.load 2 [] 3 (.t 52) 4 false),
 o3 54 63 [.t 53],
 ⟨false,[51],[],.det 2 (.store 4 [] 0 .nil (.t 51)),[4,51,51,7],none,none⟩,
 o4 2 [5,54] (.store 5 [] 0 .nil (.t 54)),
 o1 6 (kL 0)])
 .ret)
 .skip))
 (.seq (.rg [oi 55,
 o1 56 (.load 3 [] 0 (.t 55) 1 false),
 o1 57 (.build Ty3 [(0,.t 56)]),
 o5 (.a (.c Ty3 [kV 0,.bool false,.slice none 0 0,.slice none 0 0])) 8 1000000009,
 o4 2 [8,57] (.store 8 [] 0 .nil (.t 57))])
 (.seq (.join [⟨7,Ty1,false⟩,⟨8,Ty3,false⟩] 1237940038997149898747420544 none (.seq (.rg [oi 58,
 o1 59 (.load 3 [] 1 (.t 58) 1 false)])
 (.block 0 (.seq (.rg [o1 65 (.data (.bin .eql) [.t 59,kD 2]),
 oc 64 65])
 (.cond (.t 64)
 (.seq (.rg [⟨false,[],[1000000010,1000000011],.det 1 (.idx .nil),[67],(some 67),none⟩,
 ⟨false,[],[1000000010,1000000011],.det 1 (.load 7 [] 1 (.t 67) 2 true),[68],(some 68),none⟩,
 ⟨false,[],[1000000010,1000000011],.det 1 (.idx .nil),[69],(some 69),none⟩,
 ⟨false,[],[1000000010,1000000011],.det 1 (.load 3 [] 2 (.t 69) 1 false),[70],(some 70),none⟩,
 ⟨false,[],[1000000010,1000000011],.det 1 (.index 70 (kD 0)),[71],(some 71),none⟩,
 ⟨false,[],[1000000010,1000000011],.det 1 (.load 70 [(0,2)] 0 (.t 71) 2 false),[72],(some 72),none⟩,
 ⟨false,[],[1000000010,1000000011],.call 1 10 [.t 68,.t 72] .no,[73],(some 73),none⟩,
 ⟨false,[],[1000000010,1000000011],.det 2 (.copy 73),[66,73],(some 66),none⟩,
 ⟨false,[],[1000000010,1000000011],.det 2 (.ext 66 0 2),[74,66],(some 74),none⟩,
 ⟨false,[],[1000000010,1000000011],.det 1 (.ext 66 2 2),[75],(some 75),none⟩,
 ⟨false,[],[1000000010,1000000011],.det 1 (.ext 66 4 1),[76],(some 76),none⟩,
 ⟨false,[],[1000000010,1000000011],.det 1 (.ext 66 5 1),[77],(some 77),none⟩,
 ⟨false,[],[1000000011],.det 2 (.a (.c Ty6 [kV 0,.slice none 0 0])),[9,1000000010],(some 9),none⟩,
 ⟨false,[],[1000000010],.det 2 (.a (.c [.i .i64,.i .i64] [kV 0,kV 0])),[10,1000000011],(some 10),none⟩,
 o4 2 [9,74] (.store 9 [] 0 .nil (.t 74)),
 o4 1 [10] (.store 10 [] 0 .nil (.t 75)),
 oc 11 76,
 oc 12 77])
 (.seq (.join [⟨7,Ty1,false⟩] 2115915332230780408562304 none (.seq (.rg [oc 78 12])
 (.cond (.t 78)
 (.rg [o1 79 (.load 9 [] 0 .nil 2 true),
 oi 80,
 ⟨false,[79],[],.det 2 (.store 7 [] 1 (.t 80) (.t 79)),[7,79,79,9,68],none,none⟩])
 .skip)))
 (.rg [oc 81 12,
 oi 82,
 o4 1 [8] (.store 8 [] 1 (.t 82) (.t 81))])))
 (.seq (.rg [o1 84 (.data (.bin .eql) [.t 59,kD 3]),
 oc 83 84])
 (.cond (.t 83)
 (.seq (.rg [oi 85,
 o1 86 (.load 3 [] 3 (.t 85) 1 false),
 ⟨false,[],[],.call 2 64 [.t 7,.t 86] (.mp 0),[87,7],(some 87),none⟩,
 oi 88,
 o4 2 [8,87] (.store 8 [] 2 (.t 88) (.t 87))])
 (.rg [oi 89,
 o4 1 [8] (.store 8 [] 1 (.t 89) (.c [.b] [.bool true]))]))
 (.rg [oi 60,
 o1 61 (.load 3 [] 2 (.t 60) 1 false),
 ⟨false,[],[],.call 2 65 [.t 7,.t 61] (.mp 0),[62,7],(some 62),none⟩,
 oi 63,
 o4 1 [8] (.store 8 [] 1 (.t 63) (.t 62))]))))))))
 (.seq (.rg [oi 90,
 o1 91 (.load 7 [] 1 (.t 90) 2 true),
 o3 92 17 [.t 91],
 oi 93,
 o4 2 [8,92] (.store 8 [] 3 (.t 93) (.t 92))])
 (.seq (.rg [o1 94 (.load 8 [] 0 .nil 4 true),
 o3 95 63 [.t 94],
 oi 96,
 o4 2 [7,95,91] (.store 7 [] 3 (.t 96) (.t 95))])
 (.seq (.rg [o1 97 (.load 7 [] 0 .nil 7 true),
 ⟨false,[],[4,7],.det 1 (.load 8 [] 0 .nil 4 true),[98],(some 98),none⟩,
 ⟨false,[97],[],.det 2 (.store 4 [] 0 .nil (.t 97)),[4,97,97,7],none,none⟩,
 ⟨false,[98],[],.det 2 (.store 5 [] 0 .nil (.t 98)),[5,98,98,8,94],none,none⟩,
 o1 6 (kL 0)])
 .ret)))))))))
def s_iObey:Sig:=⟨[.rd true Ct0,.rd true Ct3],(.tup [(true,7),(true,4),(false,1)] [.d,.d,.sl (.own none) [.d,.d,.d,.d],.d,.d,.sl (.own none) [.d,.d],.sl (.own none) [.d],.d,.d,.sl (.own none) [.d,.d],.sl (.own none) [.d],.d])⟩
def E_iObey:TEnv:=envOf [(26,p_iShardOk),(61,p_iOrderOk),(62,p_icopyShard),(63,p_icopyAnswer),(10,p_iWebTake),(64,p_iShard_release),(65,p_iShard_accept),(17,p_iWebLabels)]
def f_iObey (n:Nat):(Int × Int × List (Int × Int × Int × Bool) × Int × Bool × List (Int × Int) × List (Int)) × (Int × Int × List (Int × Int) × Int)->Option ((Int × Int × List (Int × Int × Int × Bool) × Int × Bool × List (Int × Int) × List (Int) × Int × Bool × List (Int × Int) × List (Int) × Int) × Unit):=runFn n E_iObey c_iObey [Ty1,Ty4] Ty0 [] [4,5,6] .no
def g_iObey:=f_iObey BIG
def p_iObey:TSp:=⟨s_iObey,[Ty1,Ty4],Ty0,[],Ou.j .no,g_iObey⟩
theorem k_iObey:chkW PG E_iObey 23 s_iObey (c_iObey.ht 99) .no=some (c_iObey.wc E_iObey,[4,5,6]):=by kernel_rfl
theorem ok_iObey:p_iObey.Ok PG 23:=mkOk (env_cons ok_iShardOk (env_cons ok_iOrderOk (env_cons ok_icopyShard (env_cons ok_icopyAnswer (env_cons ok_iWebTake (env_cons ok_iShard_release (env_cons ok_iShard_accept (env_cons ok_iWebLabels (env_nil PG))))))))) k_iObey (by kernel_rfl)
theorem e_iObey (n) (a0) (a1):f_iObey n (a0,a1) =
 Option.bind (Option.bind (g_iShardOk a0) fun r0=>
 bif !r0.1 then
 some true
 else Option.bind (g_iOrderOk (a0.2.1,a1)) fun r1=>
 bif !r1.1 then
 some true
 else bif !decide (a1.1=a0.2.2.2.1) then
 some (!decide (a1.1=(IntKind.wrap .i64 (a0.2.2.2.1+(1:Int)))))
 else some false:Option (Bool)) fun x2=>
 bif x2 then
 some (((0:Int),(0:Int),[],(0:Int),false,[],[],(0:Int),false,[],[],(1:Int)),())
 else Option.bind (g_icopyShard a0) fun r3=>
 bif decide (a1.1=a0.2.2.2.1) then
 Option.bind (g_icopyAnswer a0.2.2.2) fun r4=>
 some ((r3.1.1,r3.1.2.1,r3.1.2.2.1,r3.1.2.2.2.1,r3.1.2.2.2.2.1,r3.1.2.2.2.2.2.1,r3.1.2.2.2.2.2.2,r4.1.1,r4.1.2.1,r4.1.2.2.1,r4.1.2.2.2,(0:Int)),())
 else Option.bind (bif decide (a1.2.1=(2:Int)) then
 bnd a1.2.2.1.length (0:Int) fun n5=>
 Option.bind a1.2.2.1[n5]? fun y6=>
 Option.bind (g_iWebTake ((r3.1.2.1,r3.1.2.2.1),y6)) fun r7=>
 Option.bind (bif r7.1.2.2.2.2.2 then
 some (r3.1.1,r7.1.1,r7.1.2.1,r3.1.2.2.2)
 else some r3.1:Option ((Int × Int × List (Int × Int × Int × Bool) × Int × Bool × List (Int × Int) × List (Int)))) fun x8=>
 some (x8,(a1.1,r7.1.2.2.2.2.2,[],[]))
 else bif decide (a1.2.1=(3:Int)) then
 Option.bind (g_iShard_release (r3.1,a1.2.2.2)) fun r9=>
 some (r9.2,(a1.1,true,r9.1,[]))
 else Option.bind (g_iShard_accept (r3.1,a1.2.2.1)) fun r10=>
 some (r10.2,(a1.1,r10.1,[],[])):Option ((Int × Int × List (Int × Int × Int × Bool) × Int × Bool × List (Int × Int) × List (Int)) × (Int × Bool × List (Int × Int) × List (Int)))) fun x11=>
 Option.bind (g_iWebLabels (x11.1.2.1,x11.1.2.2.1)) fun r12=>
 Option.bind (g_icopyAnswer (x11.2.1,x11.2.2.1,x11.2.2.2.1,r12.1)) fun r13=>
 some ((x11.1.1,x11.1.2.1,x11.1.2.2.1,r13.1.1,r13.1.2.1,r13.1.2.2.1,r13.1.2.2.2,x11.2.1,x11.2.2.1,x11.2.2.2.1,r12.1,(0:Int)),()):=by kernel_rfl
def c_lhas:TC:=
 (.seq (.rg [o1 3 (.a (.t 1)),
 o1 4 (.lit [.b] [.bool false])])
 (.seq (.join [] 262128 (some [⟨4,[.b],false⟩]) (.seq (.rg [o1 5 (kL 0)])
 (.block 0 (.loop [⟨5,[.i .i64],false⟩] 262128
 (.seq (.seq (.rg [oc 6 5,
 oc 7 0,
 o1 8 (.len 7),
 o1 9 (.data (.bin .lss) [.t 6,.t 8])])
 (.cond (.t 9)
 .skip
 (.exit 0)))
 (.seq (.block 1 (.seq (.rg [oc 12 0,
 oc 13 5,
 o1 14 (.index 12 (.t 13)),
 o1 15 (.load 12 [(0,2)] 0 (.t 14) 2 false),
 o1 16 (.load 3 [] 0 .nil 2 false),
 o1 17 (.eqA [.i,.i] (.t 15) (.t 16) false)])
 (.cond (.t 17)
 (.seq (.rg [o1 4 (.lit [.b] [.bool true])])
 .ret)
 .skip)))
 (.rg [oc 10 5,
 o1 11 (.data (.bin .add) [.t 10,kD 1]),
 oc 5 11])))))))
 (.seq (.rg [o1 4 (.lit [.b] [.bool false])])
 .ret)))
def s_lhas:Sig:=⟨[.rd false Ct6,.rd true [.d,.d]],(.one false [.d])⟩
def E_lhas:TEnv:=envOf []
def f_lhas (n:Nat):(List (Int × Int)) × (Int × Int)->Option ((Bool) × Unit):=runFn n E_lhas c_lhas [[.sl [.i .i64,.i .i64]],[.i .i64,.i .i64]] [.b] [] [4] .no
def g_lhas:=f_lhas BIG
def p_lhas:TSp:=⟨s_lhas,[[.sl [.i .i64,.i .i64]],[.i .i64,.i .i64]],[.b],[],Ou.j .no,g_lhas⟩
theorem k_lhas:chkW PG E_lhas 31 s_lhas (c_lhas.ht 18) .no=some (c_lhas.wc E_lhas,[4]):=by kernel_rfl
theorem ok_lhas:p_lhas.Ok PG 31:=mkOk (env_nil PG) k_lhas (by kernel_rfl)
theorem e_lhas (n) (a0) (a1):f_lhas n (a0,a1) =
 Option.bind (loopT n (X:=Int) (B:=(Unit) ⊕ (Bool)) (fun self1 x0=>
  bif decide (x0<(a0.length:Int)) then
   bnd a0.length x0 fun n2=>
   Option.bind a0[n2]? fun y3=>
   bif (decide (y3.1=a1.1)&&(decide (y3.2=a1.2)&&true)) then
    some (Sum.inr true)
   else self1 (IntKind.wrap .i64 (x0+(1:Int)))
  else some (Sum.inl ())) (0:Int):Option ((Unit) ⊕ (Bool))) fun y=>match y with
 | .inl x4=>
  some (false,())
 | .inr x4=>
  some (x4,()):=by kernel_rfl
def c_lsameWeb:TC:=
 (.seq (.rg [o1 2 (.a (.t 0)),
 o1 3 (.a (.t 1)),
 o1 4 (.lit [.b] [.bool false])])
 (.seq (.seq (.join [⟨19,[.b],false⟩] 1048512 none (.rg [oi 6,
 o1 7 (.load 2 [] 0 (.t 6) 1 false),
 oi 8,
 o1 9 (.load 3 [] 0 (.t 8) 1 false),
 o1 10 (.data (.bin .neq) [.t 7,.t 9]),
 oc 11 10,
 o2 12 (.idx .nil) 5 false,
 o2 13 (.load 2 [] 1 (.t 12) 1 false) 5 false,
 o2 14 (.len 13) 5 false,
 o2 15 (.idx .nil) 5 false,
 o2 16 (.load 3 [] 1 (.t 15) 1 false) 5 false,
 o2 17 (.len 16) 5 false,
 o2 18 (.data (.bin .neq) [.t 14,.t 17]) 5 false,
 o7 11 (.c (.bool true)) (.t 18) 19]))
 (.cond (.t 19)
 (.seq (.rg [o1 4 (.lit [.b] [.bool false])])
 .ret)
 .skip))
 (.seq (.join [] 274876858416 (some [⟨4,[.b],false⟩]) (.seq (.rg [o1 5 (kL 0)])
 (.block 0 (.loop [⟨5,[.i .i64],false⟩] 274876858416
 (.seq (.seq (.rg [oc 20 5,
 oi 21,
 o1 22 (.load 2 [] 1 (.t 21) 1 false),
 o1 23 (.len 22),
 o1 24 (.data (.bin .lss) [.t 20,.t 23])])
 (.cond (.t 24)
 .skip
 (.exit 0)))
 (.seq (.block 1 (.seq (.rg [oc 29 5,
 oc 34 5,
 oi 27,
 o1 28 (.load 2 [] 1 (.t 27) 1 false),
 o1 30 (.index 28 (.t 29)),
 o1 31 (.load 28 [(0,4)] 0 (.t 30) 4 false),
 oi 32,
 o1 33 (.load 3 [] 1 (.t 32) 1 false),
 o1 35 (.index 33 (.t 34)),
 o1 36 (.load 33 [(0,4)] 0 (.t 35) 4 false),
 o1 37 (.eqA [.i,.i,.i,.b] (.t 31) (.t 36) true)])
 (.cond (.t 37)
 (.seq (.rg [o1 4 (.lit [.b] [.bool false])])
 .ret)
 .skip)))
 (.rg [oc 25 5,
 o1 26 (.data (.bin .add) [.t 25,kD 1]),
 oc 5 26])))))))
 (.seq (.rg [o1 4 (.lit [.b] [.bool true])])
 .ret))))
def s_lsameWeb:Sig:=⟨[.rd true Ct4,.rd true Ct4],(.one false [.d])⟩
def E_lsameWeb:TEnv:=envOf []
def f_lsameWeb (n:Nat):(Int × List (Int × Int × Int × Bool)) × (Int × List (Int × Int × Int × Bool))->Option ((Bool) × Unit):=runFn n E_lsameWeb c_lsameWeb [Ty6,Ty6] [.b] [] [4] .no
def g_lsameWeb:=f_lsameWeb BIG
def p_lsameWeb:TSp:=⟨s_lsameWeb,[Ty6,Ty6],[.b],[],Ou.j .no,g_lsameWeb⟩
theorem k_lsameWeb:chkW PG E_lsameWeb 27 s_lsameWeb (c_lsameWeb.ht 38) .no=some (c_lsameWeb.wc E_lsameWeb,[4]):=by kernel_rfl
theorem ok_lsameWeb:p_lsameWeb.Ok PG 27:=mkOk (env_nil PG) k_lsameWeb (by kernel_rfl)
theorem e_lsameWeb (n) (a0) (a1):f_lsameWeb n (a0,a1) =
 Option.bind (bif !decide (a0.1=a1.1) then
  some true
  else some (!decide ((a0.2.length:Int)=(a1.2.length:Int))):Option (Bool)) fun x0=>
 bif x0 then
  some (false,())
 else Option.bind (loopT n (X:=Int) (B:=(Unit) ⊕ (Bool)) (fun self2 x1=>
  bif decide (x1<(a0.2.length:Int)) then
   bnd a0.2.length x1 fun n3=>
   Option.bind a0.2[n3]? fun y4=>
   bnd a1.2.length x1 fun n5=>
   Option.bind a1.2[n5]? fun y6=>
   bif !(decide (y4.1=y6.1)&&(decide (y4.2.1=y6.2.1)&&(decide (y4.2.2.1=y6.2.2.1)&&((y4.2.2.2 == y6.2.2.2)&&true)))) then
    some (Sum.inr false)
   else self2 (IntKind.wrap .i64 (x1+(1:Int)))
  else some (Sum.inl ())) (0:Int):Option ((Unit) ⊕ (Bool))) fun y=>match y with
 | .inl x7=>
  some (true,())
 | .inr x7=>
  some (x7,()):=by kernel_rfl
def c_lsameEdges:TC:=
 (.seq (.rg [o1 4 (.lit [.b] [.bool false])])
 (.seq (.seq (.rg [oc 6 0,
 o1 7 (.len 6),
 oc 8 1,
 o1 9 (.len 8),
 o1 10 (.data (.bin .neq) [.t 7,.t 9])])
 (.cond (.t 10)
 (.seq (.rg [o1 4 (.lit [.b] [.bool false])])
 .ret)
 .skip))
 (.seq (.join [] 67106864 (some [⟨4,[.b],false⟩]) (.seq (.rg [o1 5 (kL 0)])
 (.block 0 (.loop [⟨5,[.i .i64],false⟩] 67106864
 (.seq (.seq (.rg [oc 11 5,
 oc 12 0,
 o1 13 (.len 12),
 o1 14 (.data (.bin .lss) [.t 11,.t 13])])
 (.cond (.t 14)
 .skip
 (.exit 0)))
 (.seq (.block 1 (.seq (.rg [oc 17 0,
 oc 18 5,
 oc 21 1,
 oc 22 5,
 o1 19 (.index 17 (.t 18)),
 o1 20 (.load 17 [(0,2)] 0 (.t 19) 2 false),
 o1 23 (.index 21 (.t 22)),
 o1 24 (.load 21 [(0,2)] 0 (.t 23) 2 false),
 o1 25 (.eqA [.i,.i] (.t 20) (.t 24) true)])
 (.cond (.t 25)
 (.seq (.rg [o1 4 (.lit [.b] [.bool false])])
 .ret)
 .skip)))
 (.rg [oc 15 5,
 o1 16 (.data (.bin .add) [.t 15,kD 1]),
 oc 5 16])))))))
 (.seq (.rg [o1 4 (.lit [.b] [.bool true])])
 .ret))))
def s_lsameEdges:Sig:=⟨[.rd false Ct6,.rd false Ct6],(.one false [.d])⟩
def E_lsameEdges:TEnv:=envOf []
def f_lsameEdges (n:Nat):(List (Int × Int)) × (List (Int × Int))->Option ((Bool) × Unit):=runFn n E_lsameEdges c_lsameEdges [[.sl [.i .i64,.i .i64]],[.sl [.i .i64,.i .i64]]] [.b] [] [4] .no
def g_lsameEdges:=f_lsameEdges BIG
def p_lsameEdges:TSp:=⟨s_lsameEdges,[[.sl [.i .i64,.i .i64]],[.sl [.i .i64,.i .i64]]],[.b],[],Ou.j .no,g_lsameEdges⟩
theorem k_lsameEdges:chkW PG E_lsameEdges 16 s_lsameEdges (c_lsameEdges.ht 26) .no=some (c_lsameEdges.wc E_lsameEdges,[4]):=by kernel_rfl
theorem ok_lsameEdges:p_lsameEdges.Ok PG 16:=mkOk (env_nil PG) k_lsameEdges (by kernel_rfl)
theorem e_lsameEdges (n) (a0) (a1):f_lsameEdges n (a0,a1) =
 bif !decide ((a0.length:Int)=(a1.length:Int)) then
  some (false,())
 else Option.bind (loopT n (X:=Int) (B:=(Unit) ⊕ (Bool)) (fun self1 x0=>
  bif decide (x0<(a0.length:Int)) then
   bnd a0.length x0 fun n2=>
   Option.bind a0[n2]? fun y3=>
   bnd a1.length x0 fun n4=>
   Option.bind a1[n4]? fun y5=>
   bif !(decide (y3.1=y5.1)&&(decide (y3.2=y5.2)&&true)) then
    some (Sum.inr false)
   else self1 (IntKind.wrap .i64 (x0+(1:Int)))
  else some (Sum.inl ())) (0:Int):Option ((Unit) ⊕ (Bool))) fun y=>match y with
 | .inl x6=>
  some (true,())
 | .inr x6=>
  some (x6,()):=by kernel_rfl
def c_sl05Labels:TC:=
 (.seq (.rg [o1 4 (.lit [.sl [.i .i64]] [.slice none 0 0])])
 (.seq (.rg [o1 11 (.sli [.i .i64] []),
 o5 (.copy 11) 5 11])
 (.seq (.join [⟨5,[.sl [.i .i64]],false⟩] 2093152 none (.seq (.rg [o1 6 (kL 0)])
 (.block 0 (.loop [⟨5,[.sl [.i .i64]],false⟩,⟨6,[.i .i64],false⟩] 2093152
 (.seq (.seq (.rg [oc 12 6,
 oc 13 0,
 o1 14 (.data (.bin .lss) [.t 12,.t 13])])
 (.cond (.t 14)
 .skip
 (.exit 0)))
 (.seq (.block 1 (.rg [o5 (.copy 5) 17 5,
 oc 18 6,
 o1 19 (.sli [.i .i64] [.t 18]),
 o5 (.app (some 17) 19) 20 17,
 o5 (.copy 20) 5 20]))
 (.rg [oc 15 6,
 o1 16 (.data (.bin .add) [.t 15,kD 1]),
 oc 6 16])))))))
 (.seq (.join [⟨5,[.sl [.i .i64]],false⟩] 1180591620717409208224 none (.seq (.rg [o1 7 (kL 0)])
 (.block 2 (.loop [⟨5,[.sl [.i .i64]],false⟩,⟨7,[.i .i64],false⟩] 1180591620717409208224
 (.seq (.seq (.rg [oc 21 7,
 oc 22 0,
 o1 23 (.data (.bin .lss) [.t 21,.t 22])])
 (.cond (.t 23)
 .skip
 (.exit 2)))
 (.seq (.join [⟨5,[.sl [.i .i64]],false⟩] 1180591620717344196384 none (.block 3 (.seq (.rg [o1 8 (kL 0)])
 (.block 4 (.loop [⟨5,[.sl [.i .i64]],false⟩,⟨8,[.i .i64],false⟩] 1180591620717344196384
 (.seq (.seq (.rg [oc 26 8,
 oc 27 1,
 o1 28 (.len 27),
 o1 29 (.data (.bin .lss) [.t 26,.t 28])])
 (.cond (.t 29)
 .skip
 (.exit 4)))
 (.seq (.join [⟨5,[.sl [.i .i64]],false⟩] 1180591620713116337696 none (.block 5 (.seq (.rg [o6 32 5,
 oc 33 1,
 oc 34 8,
 o1 35 (.index 33 (.t 34)),
 o1 36 (.idx (.t 35)),
 o1 37 (.load 33 [(0,2)] 0 (.t 36) 1 false),
 o1 38 (.index 32 (.t 37)),
 o1 39 (.load 5 [(0,1)] 0 (.t 38) 1 false),
 oc 9 39])
 (.seq (.rg [o6 40 5,
 oc 41 1,
 oc 42 8,
 o1 43 (.index 41 (.t 42)),
 o1 44 (.idx (.t 43)),
 o1 45 (.load 41 [(0,2)] 1 (.t 44) 1 false),
 o1 46 (.index 40 (.t 45)),
 o1 47 (.load 5 [(0,1)] 0 (.t 46) 1 false),
 oc 10 47])
 (.seq (.join [⟨5,[.sl [.i .i64]],false⟩] 576180381133307936 none (.seq (.rg [oc 48 9,
 oc 49 10,
 o1 50 (.data (.bin .lss) [.t 48,.t 49])])
 (.cond (.t 50)
 (.rg [o6 51 5,
 oc 52 1,
 oc 53 8,
 o1 54 (.index 52 (.t 53)),
 o1 55 (.idx (.t 54)),
 o1 56 (.load 52 [(0,2)] 1 (.t 55) 1 false),
 oc 57 9,
 o1 58 (.index 51 (.t 56)),
 o4 1 [5,32,40,51] (.store 5 [(0,1)] 0 (.t 58) (.t 57))])
 .skip)))
 (.seq (.rg [oc 59 10,
 oc 60 9,
 o1 61 (.data (.bin .lss) [.t 59,.t 60])])
 (.cond (.t 61)
 (.rg [o6 62 5,
 oc 63 1,
 oc 64 8,
 o1 65 (.index 63 (.t 64)),
 o1 66 (.idx (.t 65)),
 o1 67 (.load 63 [(0,2)] 0 (.t 66) 1 false),
 oc 68 10,
 o1 69 (.index 62 (.t 67)),
 o4 1 [5,62] (.store 5 [(0,1)] 0 (.t 69) (.t 68))])
 .skip)))))))
 (.rg [oc 30 8,
 o1 31 (.data (.bin .add) [.t 30,kD 1]),
 oc 8 31]))))))))
 (.rg [oc 24 7,
 o1 25 (.data (.bin .add) [.t 24,kD 1]),
 oc 7 25])))))))
 (.seq (.rg [o5 (.copy 5) 70 5,
 o5 (.copy 70) 4 70])
 .ret)))))
def s_sl05Labels:Sig:=⟨[.rd false [.d],.rd false Ct6],(.one false Ct7)⟩
def E_sl05Labels:TEnv:=envOf []
def f_sl05Labels (n:Nat):Int × (List (Int × Int))->Option ((List (Int)) × Unit):=runFn n E_sl05Labels c_sl05Labels [[.i .i64],[.sl [.i .i64,.i .i64]]] [.sl [.i .i64]] [] [4] .no
def g_sl05Labels:=f_sl05Labels BIG
def p_sl05Labels:TSp:=⟨s_sl05Labels,[[.i .i64],[.sl [.i .i64,.i .i64]]],[.sl [.i .i64]],[],Ou.j .no,g_sl05Labels⟩
theorem k_sl05Labels:chkW PG E_sl05Labels 58 s_sl05Labels (c_sl05Labels.ht 71) .no=some (c_sl05Labels.wc E_sl05Labels,[4]):=by kernel_rfl
theorem ok_sl05Labels:p_sl05Labels.Ok PG 58:=mkOk (env_nil PG) k_sl05Labels (by kernel_rfl)
theorem e_sl05Labels (n) (a0) (a1):f_sl05Labels n (a0,a1) =
 Option.bind (loopT n (X:=(List (Int)) × Int) (B:=(List (Int))) (fun self1 x0=>
 bif decide (x0.2<a0) then
 bif decide (x0.1.length+[x0.2].length<=4294967296) then
 self1 (x0.1++[x0.2],IntKind.wrap .i64 (x0.2+(1:Int)))
 else none
 else some x0.1) ([],(0:Int)):Option ((List (Int)))) fun x2=>
 Option.bind (loopT n (X:=(List (Int)) × Int) (B:=(List (Int))) (fun self4 x3=>
 bif decide (x3.2<a0) then
 Option.bind (loopT n (X:=(List (Int)) × Int) (B:=(List (Int))) (fun self6 x5=>
 bif decide (x5.2<(a1.length:Int)) then
 Option.bind (bnd a1.length x5.2 fun n7=>
 Option.bind a1[n7]? fun y8=>
 bnd x5.1.length y8.1 fun n9=>
 Option.bind x5.1[n9]? fun y10=>
 bnd a1.length x5.2 fun n11=>
 Option.bind a1[n11]? fun y12=>
 bnd x5.1.length y12.2 fun n13=>
 Option.bind x5.1[n13]? fun y14=>
 Option.bind (bif decide (y10<y14) then
 bnd a1.length x5.2 fun n15=>
 Option.bind a1[n15]? fun y16=>
 bnd x5.1.length y16.2 fun n17=>
 Option.bind x5.1[n17]? fun y18=>
 some (x5.1.set n17 y10)
 else some x5.1:Option ((List (Int)))) fun x19=>
 bif decide (y14<y10) then
 bnd a1.length x5.2 fun n20=>
 Option.bind a1[n20]? fun y21=>
 bnd x19.length y21.1 fun n22=>
 Option.bind x19[n22]? fun y23=>
 some (x19.set n22 y14)
 else some x19:Option ((List (Int)))) fun x24=>
 self6 (x24,IntKind.wrap .i64 (x5.2+(1:Int)))
 else some x5.1) (x3.1,(0:Int)):Option ((List (Int)))) fun x25=>
 self4 (x25,IntKind.wrap .i64 (x3.2+(1:Int)))
 else some x3.1) (x2,(0:Int)):Option ((List (Int)))) fun x26=>
 some (x26,()):=by kernel_rfl
def c_sLabels:TC:=
 (.seq (.rg [o1 1 (.a (.t 0)),
 o1 2 (.lit [.sl [.i .i64]] [.slice none 0 0])])
 (.seq (.seq (.rg [o1 3 (.load 1 [] 0 .nil 2 false),
 o3 4 41 [.t 3],
 o1 5 (.data .not [.t 4])])
 (.cond (.t 5)
 (.seq (.rg [o1 6 (.sli [.i .i64] []),
 o5 (.copy 6) 2 6])
 .ret)
 .skip))
 (.seq (.rg [oi 7,
 o1 8 (.load 1 [] 0 (.t 7) 1 false),
 oi 9,
 o1 10 (.load 1 [] 1 (.t 9) 1 false),
 o3 11 58 [.t 8,.t 10],
 o5 (.copy 11) 2 11])
 .ret)))
def s_sLabels:Sig:=⟨[.rd true Ct5],(.one false Ct7)⟩
def E_sLabels:TEnv:=envOf [(41,p_sGraphOk),(58,p_sl05Labels)]
def f_sLabels (n:Nat):(Int × List (Int × Int))->Option ((List (Int)) × Unit):=runFn n E_sLabels c_sLabels [Ty9] [.sl [.i .i64]] [] [2] .no
def g_sLabels:=f_sLabels BIG
def p_sLabels:TSp:=⟨s_sLabels,[Ty9],[.sl [.i .i64]],[],Ou.j .no,g_sLabels⟩
theorem k_sLabels:chkW PG E_sLabels 19 s_sLabels (c_sLabels.ht 12) .no=some (c_sLabels.wc E_sLabels,[2]):=by kernel_rfl
theorem ok_sLabels:p_sLabels.Ok PG 19:=mkOk (env_cons ok_sGraphOk (env_cons ok_sl05Labels (env_nil PG))) k_sLabels (by kernel_rfl)
theorem e_sLabels (n) (a0):f_sLabels n a0 =
 Option.bind (g_sGraphOk a0) fun r0=>
 bif !r0.1 then
 some ([],())
 else Option.bind (g_sl05Labels (a0.1,a0.2)) fun r1=>
 some (r1.1,()):=by kernel_rfl
def c_lsameInts:TC:=
 (.seq (.rg [o1 4 (.lit [.b] [.bool false])])
 (.seq (.seq (.rg [oc 6 0,
 o1 7 (.len 6),
 oc 8 1,
 o1 9 (.len 8),
 o1 10 (.data (.bin .neq) [.t 7,.t 9])])
 (.cond (.t 10)
 (.seq (.rg [o1 4 (.lit [.b] [.bool false])])
 .ret)
 .skip))
 (.seq (.join [] 67106864 (some [⟨4,[.b],false⟩]) (.seq (.rg [o1 5 (kL 0)])
 (.block 0 (.loop [⟨5,[.i .i64],false⟩] 67106864
 (.seq (.seq (.rg [oc 11 5,
 oc 12 0,
 o1 13 (.len 12),
 o1 14 (.data (.bin .lss) [.t 11,.t 13])])
 (.cond (.t 14)
 .skip
 (.exit 0)))
 (.seq (.block 1 (.seq (.rg [oc 17 0,
 oc 18 5,
 oc 21 1,
 oc 22 5,
 o1 19 (.index 17 (.t 18)),
 o1 20 (.load 17 [(0,1)] 0 (.t 19) 1 false),
 o1 23 (.index 21 (.t 22)),
 o1 24 (.load 21 [(0,1)] 0 (.t 23) 1 false),
 o1 25 (.data (.bin .neq) [.t 20,.t 24])])
 (.cond (.t 25)
 (.seq (.rg [o1 4 (.lit [.b] [.bool false])])
 .ret)
 .skip)))
 (.rg [oc 15 5,
 o1 16 (.data (.bin .add) [.t 15,kD 1]),
 oc 5 16])))))))
 (.seq (.rg [o1 4 (.lit [.b] [.bool true])])
 .ret))))
def s_lsameInts:Sig:=⟨[.rd false Ct7,.rd false Ct7],(.one false [.d])⟩
def E_lsameInts:TEnv:=envOf []
def f_lsameInts (n:Nat):List (Int) × List (Int)->Option ((Bool) × Unit):=runFn n E_lsameInts c_lsameInts [[.sl [.i .i64]],[.sl [.i .i64]]] [.b] [] [4] .no
def g_lsameInts:=f_lsameInts BIG
def p_lsameInts:TSp:=⟨s_lsameInts,[[.sl [.i .i64]],[.sl [.i .i64]]],[.b],[],Ou.j .no,g_lsameInts⟩
theorem k_lsameInts:chkW PG E_lsameInts 18 s_lsameInts (c_lsameInts.ht 26) .no=some (c_lsameInts.wc E_lsameInts,[4]):=by kernel_rfl
theorem ok_lsameInts:p_lsameInts.Ok PG 18:=mkOk (env_nil PG) k_lsameInts (by kernel_rfl)
theorem e_lsameInts (n) (a0) (a1):f_lsameInts n (a0,a1) =
 bif !decide ((a0.length:Int)=(a1.length:Int)) then
  some (false,())
 else Option.bind (loopT n (X:=Int) (B:=(Unit) ⊕ (Bool)) (fun self1 x0=>
  bif decide (x0<(a0.length:Int)) then
   bnd a0.length x0 fun n2=>
   Option.bind a0[n2]? fun y3=>
   bnd a1.length x0 fun n4=>
   Option.bind a1[n4]? fun y5=>
   bif !decide (y3=y5) then
    some (Sum.inr false)
   else self1 (IntKind.wrap .i64 (x0+(1:Int)))
  else some (Sum.inl ())) (0:Int):Option ((Unit) ⊕ (Bool))) fun y=>match y with
 | .inl x6=>
  some (true,())
 | .inr x6=>
  some (x6,()):=by kernel_rfl
def c_lFnReleases:TC:=
 (.seq (.rg [o1 2 (.lit [.b] [.bool false])])
 (.seq (.seq (.rg [oc 16 0,
 o3 17 6 [.t 16]])
 (.cond (.t 17)
 (.seq (.rg [o1 2 (.lit [.b] [.bool true])])
 .ret)
 .skip))
 (.seq (.rg [oc 19 0,
 o3 20 22 [.t 19],
 o5 (.copy 20) 18 20,
 o5 (.ext 18 0 7) 21 18,
 o5 (.ext 18 7 4) 22 18,
 o5 (.a (.c Ty1 [kV 0,kV 0,.slice none 0 0,kV 0,.bool false,.slice none 0 0,.slice none 0 0])) 3 1000000004,
 o5 (.a (.c Ty4 [kV 0,kV 0,.slice none 0 0,kV 0])) 4 1000000005,
 o4 2 [3,21] (.store 3 [] 0 .nil (.t 21)),
 o4 2 [4,22] (.store 4 [] 0 .nil (.t 22))])
 (.seq (.rg [oc 23 0,
 o3 24 29 [.t 23],
 o1 25 (.index 24 (kD 0)),
 o1 26 (.load 24 [(0,1)] 0 (.t 25) 1 false),
 oi 27,
 o1 28 (.idx (.t 27)),
 o1 29 (.load 3 [] 1 (.t 28) 1 false),
 o1 30 (.data (.bin .rem) [.t 26,.t 29]),
 oc 5 30])
 (.seq (.rg [o1 31 (.load 3 [] 0 .nil 7 true),
 o3 32 30 [.t 31],
 o5 (.copy 32) 6 32])
 (.seq (.rg [o1 34 (.load 3 [] 0 .nil 7 true),
 oi 35,
 o1 36 (.idx (.t 35)),
 o1 37 (.load 3 [] 3 (.t 36) 1 false),
 o1 38 (.data (.bin .add) [.t 37,kD 1]),
 oc 39 5,
 o5 (.build Ty4 [(0,.t 38),(1,kO 3),(3,.t 39)]) 40 1000000002,
 o3 41 23 [.t 34,.t 40],
 o5 (.copy 41) 33 41,
 o5 (.ext 33 0 7) 42 33,
 o5 (.ext 33 7 4) 43 33,
 o1 44 (.ext 33 11 1),
 o5 (.a (.c Ty1 [kV 0,kV 0,.slice none 0 0,kV 0,.bool false,.slice none 0 0,.slice none 0 0])) 7 1000000008,
 o5 (.a (.c Ty3 [kV 0,.bool false,.slice none 0 0,.slice none 0 0])) 8 1000000009,
 o4 2 [7,42] (.store 7 [] 0 .nil (.t 42)),
 o4 2 [8,43] (.store 8 [] 0 .nil (.t 43)),
 oc 9 44])
 (.seq (.seq (.join [⟨51,[.b],false⟩] 4468415255281664 none (.rg [oc 45 9,
 o1 46 (.data (.bin .neq) [.t 45,kD 0]),
 oc 47 46,
 o2 48 (.idx .nil) 2 false,
 o2 49 (.load 8 [] 1 (.t 48) 1 false) 2 false,
 o2 50 (.data .not [.t 49]) 2 false,
 o7 47 (.c (.bool true)) (.t 50) 51]))
 (.cond (.t 51)
 (.seq (.rg [o1 2 (.lit [.b] [.bool false])])
 .ret)
 .skip))
 (.seq (.rg [o1 52 (.load 7 [] 0 .nil 7 true),
 o3 53 30 [.t 52],
 o5 (.copy 53) 10 53])
 (.seq (.join [] 39614081257114154398262499332 (some [⟨2,[.b],false⟩]) (.seq (.rg [o1 11 (kL 0)])
 (.block 0 (.loop [⟨11,[.i .i64],false⟩] 39614081257114154398262499332
 (.seq (.seq (.rg [oc 54 11,
 o6 55 6,
 o1 56 (.len 55),
 o1 57 (.data (.bin .lss) [.t 54,.t 56])])
 (.cond (.t 57)
 .skip
 (.exit 0)))
 (.seq (.join [] 39614081255979247292165132292 (some [⟨2,[.b],false⟩]) (.block 1 (.seq (.join [⟨12,[.b],false⟩] 75556710804409716576256 none (.rg [o6 60 6,
 oc 61 11,
 o1 62 (.index 60 (.t 61)),
 o1 63 (.idx (.t 62)),
 o1 64 (.load 6 [(0,2)] 0 (.t 63) 1 false),
 oc 65 5,
 o1 66 (.data (.bin .eql) [.t 64,.t 65]),
 oc 67 66,
 ⟨true,[],[],.det 1 (.copy 6),[68],(some 68),some (7,false)⟩,
 o2 69 (.copy 11) 7 false,
 o2 70 (.index 68 (.t 69)) 7 false,
 o2 71 (.idx (.t 70)) 7 false,
 o2 72 (.load 6 [(0,2)] 1 (.t 71) 1 false) 7 false,
 o2 73 (.copy 5) 7 false,
 o2 74 (.data (.bin .eql) [.t 72,.t 73]) 7 false,
 o7 67 (.c (.bool true)) (.t 74) 75,
 oc 12 75]))
 (.seq (.join [⟨94,[.b],false⟩] 39614005699268442882448556032 none (.rg [o6 78 6,
 oc 79 11,
 oc 83 12,
 oi 76,
 o1 77 (.load 8 [] 2 (.t 76) 1 true),
 o1 80 (.index 78 (.t 79)),
 o1 81 (.load 6 [(0,2)] 0 (.t 80) 2 false),
 o3 82 31 [.t 77,.t 81],
 o1 84 (.data (.beq true) [.t 82,.t 83]),
 oc 85 84,
 ⟨true,[],[],.det 1 (.copy 10),[86],(some 86),some (9,false)⟩,
 ⟨true,[],[],.det 1 (.copy 6),[87],(some 87),some (9,false)⟩,
 o2 88 (.copy 11) 9 false,
 o2 89 (.index 87 (.t 88)) 9 false,
 o2 90 (.load 6 [(0,2)] 0 (.t 89) 2 false) 9 false,
 ⟨false,[],[],.call 1 31 [.t 86,.t 90] .no,[91],(some 91),some (9,false)⟩,
 o2 92 (.copy 12) 9 false,
 o2 93 (.data (.beq false) [.t 91,.t 92]) 9 false,
 o7 85 (.c (.bool true)) (.t 93) 94]))
 (.cond (.t 94)
 (.seq (.rg [o1 2 (.lit [.b] [.bool false])])
 .ret)
 .skip)))))
 (.rg [oc 58 11,
 o1 59 (.data (.bin .add) [.t 58,kD 1]),
 oc 11 59])))))))
 (.seq (.seq (.rg [o5 (.copy 10) 95 10,
 o1 96 (.len 95),
 oi 97,
 o1 98 (.load 8 [] 2 (.t 97) 1 true),
 o1 99 (.len 98),
 o1 100 (.data (.bin .add) [.t 96,.t 99]),
 o6 101 6,
 o1 102 (.len 101),
 o1 103 (.data (.bin .neq) [.t 100,.t 102])])
 (.cond (.t 103)
 (.seq (.rg [o1 2 (.lit [.b] [.bool false])])
 .ret)
 .skip))
 (.seq (.seq (.rg [oi 104,
 o1 105 (.load 8 [] 2 (.t 104) 1 true),
 o1 106 (.len 105),
 o1 107 (.data (.bin .eql) [.t 106,kD 0])])
 (.cond (.t 107)
 (.seq (.rg [oi 108,
 o1 109 (.load 7 [] 1 (.t 108) 2 true),
 oi 110,
 o1 111 (.load 3 [] 1 (.t 110) 2 true),
 o3 112 27 [.t 109,.t 111],
 oc 2 112])
 .ret)
 .skip))
 (.seq (.rg [o1 114 (.load 7 [] 0 .nil 7 true),
 oi 115,
 o1 116 (.idx (.t 115)),
 o1 117 (.load 7 [] 3 (.t 116) 1 false),
 o1 118 (.data (.bin .add) [.t 117,kD 1]),
 oi 119,
 o1 120 (.load 8 [] 2 (.t 119) 1 true),
 ⟨false,[120],[],.det 3 (.build Ty4 [(0,.t 118),(1,kO 4),(2,.t 120)]),[121,1000000002,120,120,8,98,105],(some 121),none⟩,
 o3 122 23 [.t 114,.t 121],
 o5 (.copy 122) 113 122,
 o5 (.ext 113 0 7) 123 113,
 o5 (.ext 113 7 4) 124 113,
 o1 125 (.ext 113 11 1),
 o5 (.a (.c Ty1 [kV 0,kV 0,.slice none 0 0,kV 0,.bool false,.slice none 0 0,.slice none 0 0])) 13 1000000014,
 o5 (.a (.c Ty3 [kV 0,.bool false,.slice none 0 0,.slice none 0 0])) 14 1000000015,
 o4 2 [13,123] (.store 13 [] 0 .nil (.t 123)),
 o4 2 [14,124] (.store 14 [] 0 .nil (.t 124)),
 oc 15 125])
 (.seq (.join [⟨2,[.b],false⟩] 178405876517655790198870336832366824531165252 none (.rg [oc 126 15,
 o1 127 (.data (.bin .eql) [.t 126,kD 0]),
 oc 128 127,
 o2 129 (.idx .nil) 2 true,
 o2 130 (.load 14 [] 1 (.t 129) 1 false) 2 true,
 o7 128 (.t 130) (.c (.bool false)) 131,
 oc 132 131,
 ⟨false,[],[6,55,101],.det 1 (.load 13 [] 0 .nil 7 true),[133],(some 133),some (6,true)⟩,
 ⟨false,[],[6,55,101],.call 1 30 [.t 133] .no,[134],(some 134),some (6,true)⟩,
 ⟨false,[],[],.det 2 (.copy 6),[135,6,55,101],(some 135),some (6,true)⟩,
 ⟨false,[],[],.call 1 16 [.t 134,.t 135] .no,[136],(some 136),some (6,true)⟩,
 o7 132 (.t 136) (.c (.bool false)) 137,
 oc 138 137,
 o2 139 (.idx .nil) 12 true,
 o2 140 (.load 14 [] 3 (.t 139) 1 true) 12 true,
 o2 141 (.idx .nil) 12 true,
 o2 142 (.load 3 [] 1 (.t 141) 2 true) 12 true,
 ⟨false,[],[],.call 1 32 [.t 142] .no,[143],(some 143),some (12,true)⟩,
 ⟨false,[],[],.call 1 19 [.t 143] .no,[144],(some 144),some (12,true)⟩,
 ⟨false,[],[],.call 1 18 [.t 140,.t 144] .no,[145],(some 145),some (12,true)⟩,
 o7 138 (.t 145) (.c (.bool false)) 146,
 oc 2 146]))
 .ret)))))))))))))
def s_lFnReleases:Sig:=⟨[.rd false Ct7],(.one false [.d])⟩
def E_lFnReleases:TEnv:=envOf [(6,p_lbig),(22,p_sDrawRightShard),(29,p_sDrawPlaces),(30,p_iOwned),(23,p_iObey),(31,p_lhas),(27,p_lsameWeb),(16,p_lsameEdges),(32,p_sGraphOf),(19,p_sLabels),(18,p_lsameInts)]
def f_lFnReleases (n:Nat):List (Int)->Option ((Bool) × Unit):=runFn n E_lFnReleases c_lFnReleases [[.sl [.i .u8]]] [.b] [] [2] .no
def g_lFnReleases:=f_lFnReleases BIG
def p_lFnReleases:TSp:=⟨s_lFnReleases,[[.sl [.i .u8]]],[.b],[],Ou.j .no,g_lFnReleases⟩
theorem k_lFnReleases:chkW PG E_lFnReleases 5 s_lFnReleases (c_lFnReleases.ht 147) .no=some (c_lFnReleases.wc E_lFnReleases,[2]):=by kernel_rfl
theorem ok_lFnReleases:p_lFnReleases.Ok PG 5:=mkOk (env_cons ok_lbig (env_cons ok_sDrawRightShard (env_cons ok_sDrawPlaces (env_cons ok_iOwned (env_cons ok_iObey (env_cons ok_lhas (env_cons ok_lsameWeb (env_cons ok_lsameEdges (env_cons ok_sGraphOf (env_cons ok_sLabels (env_cons ok_lsameInts (env_nil PG)))))))))))) k_lFnReleases (by kernel_rfl)
theorem e_lFnReleases (n) (a0):f_lFnReleases n a0 =
 Option.bind (g_lbig a0) fun r0=>
 bif r0.1 then
  some (true,())
 else Option.bind (g_sDrawRightShard a0) fun r1=>
 Option.bind (g_sDrawPlaces a0) fun r2=>
 bnd r2.1.length (0:Int) fun n3=>
 Option.bind r2.1[n3]? fun y4=>
 bif decide (r1.1.2.1=0) then
  none
 else Option.bind (g_iOwned (r1.1.1,r1.1.2.1,r1.1.2.2.1,r1.1.2.2.2.1,r1.1.2.2.2.2.1,r1.1.2.2.2.2.2.1,r1.1.2.2.2.2.2.2.1)) fun r5=>
 Option.bind (g_iObey ((r1.1.1,r1.1.2.1,r1.1.2.2.1,r1.1.2.2.2.1,r1.1.2.2.2.2.1,r1.1.2.2.2.2.2.1,r1.1.2.2.2.2.2.2.1),(IntKind.wrap .i64 (r1.1.2.2.2.1+(1:Int)),(3:Int),[],Int.tmod y4 r1.1.2.1))) fun r6=>
 Option.bind (bif !decide (r6.1.2.2.2.2.2.2.2.2.2.2.2=(0:Int)) then
  some true
  else some !r6.1.2.2.2.2.2.2.2.2.1:Option (Bool)) fun x7=>
 bif x7 then
  some (false,())
 else Option.bind (g_iOwned (r6.1.1,r6.1.2.1,r6.1.2.2.1,r6.1.2.2.2.1,r6.1.2.2.2.2.1,r6.1.2.2.2.2.2.1,r6.1.2.2.2.2.2.2.1)) fun r8=>
 Option.bind (loopT n (X:=Int) (B:=(Unit) ⊕ (Bool)) (fun self10 x9=>
  bif decide (x9<(r5.1.length:Int)) then
   Option.bind (Option.bind (bnd r5.1.length x9 fun n11=>
    Option.bind r5.1[n11]? fun y12=>
    bif decide (y12.1=(Int.tmod y4 r1.1.2.1)) then
     some true
    else bnd r5.1.length x9 fun n13=>
    Option.bind r5.1[n13]? fun y14=>
    some (decide (y14.2=(Int.tmod y4 r1.1.2.1))):Option (Bool)) fun x15=>
    Option.bind (bnd r5.1.length x9 fun n16=>
     Option.bind r5.1[n16]? fun y17=>
     Option.bind (g_lhas (r6.1.2.2.2.2.2.2.2.2.2.1,y17)) fun r18=>
     bif !(r18.1 == x15) then
      some true
     else bnd r5.1.length x9 fun n19=>
     Option.bind r5.1[n19]? fun y20=>
     Option.bind (g_lhas (r8.1,y20)) fun r21=>
     some (r21.1 == x15):Option (Bool)) fun x22=>
    bif x22 then
     some (Sum.inr false)
    else some (Sum.inl ()):Option ((Unit) ⊕ (Bool))) fun y=>match y with
   | .inl x23=>
    self10 (IntKind.wrap .i64 (x9+(1:Int)))
   | .inr x23=>
    some (Sum.inr x23)
  else some (Sum.inl ())) (0:Int):Option ((Unit) ⊕ (Bool))) fun y=>match y with
 | .inl x24=>
  bif !decide ((IntKind.wrap .i64 ((r8.1.length:Int)+(r6.1.2.2.2.2.2.2.2.2.2.1.length:Int)))=(r5.1.length:Int)) then
   some (false,())
  else bif decide ((r6.1.2.2.2.2.2.2.2.2.2.1.length:Int)=(0:Int)) then
   Option.bind (g_lsameWeb ((r6.1.2.1,r6.1.2.2.1),(r1.1.2.1,r1.1.2.2.1))) fun r25=>
   some (r25.1,())
  else Option.bind (g_iObey ((r6.1.1,r6.1.2.1,r6.1.2.2.1,r6.1.2.2.2.1,r6.1.2.2.2.2.1,r6.1.2.2.2.2.2.1,r6.1.2.2.2.2.2.2.1),(IntKind.wrap .i64 (r6.1.2.2.2.1+(1:Int)),(4:Int),r6.1.2.2.2.2.2.2.2.2.2.1,(0:Int)))) fun r26=>
  Option.bind (bif decide (r26.1.2.2.2.2.2.2.2.2.2.2.2=(0:Int)) then
   bif r26.1.2.2.2.2.2.2.2.2.1 then
    Option.bind (g_iOwned (r26.1.1,r26.1.2.1,r26.1.2.2.1,r26.1.2.2.2.1,r26.1.2.2.2.2.1,r26.1.2.2.2.2.2.1,r26.1.2.2.2.2.2.2.1)) fun r27=>
    Option.bind (g_lsameEdges (r27.1,r5.1)) fun r28=>
    bif r28.1 then
     Option.bind (g_sGraphOf (r1.1.2.1,r1.1.2.2.1)) fun r29=>
     Option.bind (g_sLabels r29.1) fun r30=>
     Option.bind (g_lsameInts (r26.1.2.2.2.2.2.2.2.2.2.2.1,r30.1)) fun r31=>
     some r31.1
    else some false
   else some false
   else some false:Option (Bool)) fun x32=>
  some (x32,())
 | .inr x24=>
  some (x24,()):=by kernel_rfl
end
end Go.Fw
