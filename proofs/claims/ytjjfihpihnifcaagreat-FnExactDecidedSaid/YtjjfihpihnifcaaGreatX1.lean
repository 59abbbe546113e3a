/- The given functions, as what they compute; each is shown to be what the code does. No conditions. -/
import Derived.Test.YtjjfihpihnifcaaGreatX0
set_option linter.unusedVariables false
set_option linter.unusedSimpArgs false
namespace Go.Fw
noncomputable section
def c_sHeadFrom:TC:=
 (.seq (.rg [o5 (.a (.c Ty2 [kV 0,.slice none 0 0,.slice none 0 0,.slice none 0 0,.slice none 0 0,kV 0,kV 0,kV 0,kV 0,kV 0,kV 0,kV 0,.slice none 0 0,kV 0,.slice none 0 0])) 6 1000000001,
 o1 7 (.lit [.b] [.bool false])])
 (.seq (.rg [oc 13 0,
 oc 14 1,
 o3 15 25 [.t 13,.t 14],
 o5 (.copy 15) 12 15,
 o5 (.ext 12 0 15) 16 12,
 o1 17 (.ext 12 15 1),
 o5 (.a (.c Ty2 [kV 0,.slice none 0 0,.slice none 0 0,.slice none 0 0,.slice none 0 0,kV 0,kV 0,kV 0,kV 0,kV 0,kV 0,kV 0,.slice none 0 0,kV 0,.slice none 0 0])) 8 1000000001,
 o4 2 [8,16] (.store 8 [] 0 .nil (.t 16)),
 oc 9 17])
 (.seq (.join [⟨8,Ty2,false⟩,⟨9,[.b],false⟩] 9223372036854517504 none (.seq (.rg [o1 10 (kL 0)])
 (.block 0 (.loop [⟨8,Ty2,false⟩,⟨9,[.b],false⟩,⟨10,[.i .i64],false⟩] 9223372036854517504
 (.seq (.seq (.join [⟨24,[.b],false⟩] 33292288 none (.rg [oc 18 10,
 oc 19 2,
 o1 20 (.len 19),
 o1 21 (.data (.bin .lss) [.t 18,.t 20]),
 oc 22 21,
 o2 23 (.copy 9) 4 true,
 o7 22 (.t 23) (.c (.bool false)) 24]))
 (.cond (.t 24)
 .skip
 (.exit 0)))
 (.seq (.join [⟨8,Ty2,false⟩,⟨9,[.b],false⟩] 9223372036720560896 none (.block 1 (.seq (.rg [o1 11 (kL 0)])
 (.seq (.join [⟨8,Ty2,false⟩,⟨11,[.i .i64],false⟩] 2305843009079478528 none (.seq (.rg [oc 27 2,
 oc 28 10,
 o1 29 (.index 27 (.t 28)),
 o1 30 (.idx (.t 29)),
 o1 31 (.load 27 [(0,14)] 0 (.t 30) 1 false)])
 (.block 2 (.seq (.rg [o1 33 (.data (.bin .eql) [.t 31,kD 1]),
 oc 32 33])
 (.cond (.t 32)
 (.rg [o1 35 (.load 8 [] 0 .nil 15 true),
 oc 36 2,
 oc 37 10,
 o1 38 (.index 36 (.t 37)),
 o1 39 (.idx (.t 38)),
 o1 40 (.load 36 [(0,14)] 1 (.t 39) 4 false),
 o3 41 26 [.t 35,.t 40],
 o5 (.copy 41) 34 41,
 o5 (.ext 34 0 15) 42 34,
 o1 43 (.ext 34 15 1),
 o4 2 [8,42,35] (.store 8 [] 0 .nil (.t 42)),
 oc 11 43])
 (.seq (.rg [o1 45 (.data (.bin .eql) [.t 31,kD 2]),
 oc 44 45])
 (.cond (.t 44)
 (.rg [o1 47 (.load 8 [] 0 .nil 15 true),
 oc 48 2,
 oc 49 10,
 o1 50 (.index 48 (.t 49)),
 o1 51 (.idx (.t 50)),
 o1 52 (.load 48 [(0,14)] 5 (.t 51) 1 false),
 oc 53 2,
 oc 54 10,
 o1 55 (.index 53 (.t 54)),
 o1 56 (.idx (.t 55)),
 o1 57 (.load 53 [(0,14)] 6 (.t 56) 4 false),
 o3 58 27 [.t 47,.t 52,.t 57],
 o5 (.copy 58) 46 58,
 o5 (.ext 46 0 15) 59 46,
 o1 60 (.ext 46 15 1),
 o4 2 [8,59,47] (.store 8 [] 0 .nil (.t 59)),
 oc 11 60])
 .skip)))))))
 (.rg [oc 61 11,
 o1 62 (.data (.bin .neq) [.t 61,kD 0]),
 oc 9 62])))))
 (.rg [oc 25 10,
 o1 26 (.data (.bin .add) [.t 25,kD 1]),
 oc 10 26])))))))
 (.seq (.seq (.rg [oc 63 9,
 o1 64 (.data .not [.t 63])])
 (.cond (.t 64)
 (.seq (.rg [o1 65 (.build Ty2 []),
 o4 2 [6,65] (.store 6 [] 0 .nil (.t 65)),
 o1 7 (.lit [.b] [.bool false])])
 .ret)
 .skip))
 (.seq (.rg [o1 66 (.load 8 [] 0 .nil 15 true),
 o3 67 28 [.t 66],
 o4 2 [6,67] (.store 6 [] 0 .nil (.t 67)),
 o1 7 (.lit [.b] [.bool true])])
 .ret)))))
def s_sHeadFrom:Sig:=⟨[.rd false [.d],.rd false [.d],.rd false Ct2],(.tup [(true,15),(false,1)] Ct0)⟩
def E_sHeadFrom:TEnv:=envOf [(25,p_sHeadNew),(26,p_sTake),(27,p_sHear),(28,p_sl12Copy)]
def f_sHeadFrom (n:Nat):Int × Int × (List (Int × Int × Int × Int × Int × Int × Int × Bool × List (Int × Int) × List (Int) × Int × Int × List (Int × Int) × Int))->Option ((Int × List (Int) × List (Int × Int) × List (List (Int)) × List (Int) × Int × Int × Int × Int × Int × Int × Int × List (Int × Int) × Int × List (Int × Int × Int × Int × Int × Int) × Bool) × Unit):=runFn n E_sHeadFrom c_sHeadFrom [[.i .i64],[.i .i64],Ty3] Ty1 [] [6,7] .no
def g_sHeadFrom:=f_sHeadFrom BIG
def p_sHeadFrom:TSp:=⟨s_sHeadFrom,[[.i .i64],[.i .i64],Ty3],Ty1,[],Ou.j .no,g_sHeadFrom⟩
theorem k_sHeadFrom:chkW PG E_sHeadFrom 14 s_sHeadFrom (c_sHeadFrom.ht 68) .no=some (c_sHeadFrom.wc E_sHeadFrom,[6,7]):=by kernel_rfl
theorem ok_sHeadFrom:p_sHeadFrom.Ok PG 14:=mkOk (env_cons ok_sHeadNew (env_cons ok_sTake (env_cons ok_sHear (env_cons ok_sl12Copy (env_nil PG))))) k_sHeadFrom (by kernel_rfl)
theorem e_sHeadFrom (n) (a0) (a1) (a2):f_sHeadFrom n (a0,a1,a2) =
 Option.bind (g_sHeadNew (a0,a1)) fun r0=>
 Option.bind (loopT n (X:=(Int × List (Int) × List (Int × Int) × List ((List (Int))) × List (Int) × Int × Int × Int × Int × Int × Int × Int × List (Int × Int) × Int × List (Int × Int × Int × Int × Int × Int)) × Bool × Int) (B:=(Int × List (Int) × List (Int × Int) × List ((List (Int))) × List (Int) × Int × Int × Int × Int × Int × Int × Int × List (Int × Int) × Int × List (Int × Int × Int × Int × Int × Int)) × Bool) (fun self2 x1=>
 Option.bind (bif decide (x1.2.2<(a2.length:Int)) then
 some x1.2.1
 else some false:Option (Bool)) fun x3=>
 bif x3 then
 Option.bind (Option.bind (bnd a2.length x1.2.2 fun n4=>
 Option.bind a2[n4]? fun y5=>
 bif decide (y5.1=(1:Int)) then
 bnd a2.length x1.2.2 fun n6=>
 Option.bind a2[n6]? fun y7=>
 Option.bind (g_sTake (x1.1,(y7.2.1,y7.2.2.1,y7.2.2.2.1,y7.2.2.2.2.1))) fun r8=>
 some ((r8.1.1,r8.1.2.1,r8.1.2.2.1,r8.1.2.2.2.1,r8.1.2.2.2.2.1,r8.1.2.2.2.2.2.1,r8.1.2.2.2.2.2.2.1,r8.1.2.2.2.2.2.2.2.1,r8.1.2.2.2.2.2.2.2.2.1,r8.1.2.2.2.2.2.2.2.2.2.1,r8.1.2.2.2.2.2.2.2.2.2.2.1,r8.1.2.2.2.2.2.2.2.2.2.2.2.1,r8.1.2.2.2.2.2.2.2.2.2.2.2.2.1,r8.1.2.2.2.2.2.2.2.2.2.2.2.2.2.1,r8.1.2.2.2.2.2.2.2.2.2.2.2.2.2.2.1),r8.1.2.2.2.2.2.2.2.2.2.2.2.2.2.2.2)
 else bif decide (y5.1=(2:Int)) then
 bnd a2.length x1.2.2 fun n9=>
 Option.bind a2[n9]? fun y10=>
 bnd a2.length x1.2.2 fun n11=>
 Option.bind a2[n11]? fun y12=>
 Option.bind (g_sHear (x1.1,y10.2.2.2.2.2.1,(y12.2.2.2.2.2.2.1,y12.2.2.2.2.2.2.2.1,y12.2.2.2.2.2.2.2.2.1,y12.2.2.2.2.2.2.2.2.2.1))) fun r13=>
 some ((r13.1.1,r13.1.2.1,r13.1.2.2.1,r13.1.2.2.2.1,r13.1.2.2.2.2.1,r13.1.2.2.2.2.2.1,r13.1.2.2.2.2.2.2.1,r13.1.2.2.2.2.2.2.2.1,r13.1.2.2.2.2.2.2.2.2.1,r13.1.2.2.2.2.2.2.2.2.2.1,r13.1.2.2.2.2.2.2.2.2.2.2.1,r13.1.2.2.2.2.2.2.2.2.2.2.2.1,r13.1.2.2.2.2.2.2.2.2.2.2.2.2.1,r13.1.2.2.2.2.2.2.2.2.2.2.2.2.2.1,r13.1.2.2.2.2.2.2.2.2.2.2.2.2.2.2.1),r13.1.2.2.2.2.2.2.2.2.2.2.2.2.2.2.2)
 else some (x1.1,(0:Int)):Option ((Int × List (Int) × List (Int × Int) × List ((List (Int))) × List (Int) × Int × Int × Int × Int × Int × Int × Int × List (Int × Int) × Int × List (Int × Int × Int × Int × Int × Int)) × Int)) fun x14=>
 some (x14.1,!decide (x14.2=(0:Int))):Option ((Int × List (Int) × List (Int × Int) × List ((List (Int))) × List (Int) × Int × Int × Int × Int × Int × Int × Int × List (Int × Int) × Int × List (Int × Int × Int × Int × Int × Int)) × Bool)) fun x15=>
 self2 (x15.1,x15.2,IntKind.wrap .i64 (x1.2.2+(1:Int)))
 else some (x1.1,x1.2.1)) ((r0.1.1,r0.1.2.1,r0.1.2.2.1,r0.1.2.2.2.1,r0.1.2.2.2.2.1,r0.1.2.2.2.2.2.1,r0.1.2.2.2.2.2.2.1,r0.1.2.2.2.2.2.2.2.1,r0.1.2.2.2.2.2.2.2.2.1,r0.1.2.2.2.2.2.2.2.2.2.1,r0.1.2.2.2.2.2.2.2.2.2.2.1,r0.1.2.2.2.2.2.2.2.2.2.2.2.1,r0.1.2.2.2.2.2.2.2.2.2.2.2.2.1,r0.1.2.2.2.2.2.2.2.2.2.2.2.2.2.1,r0.1.2.2.2.2.2.2.2.2.2.2.2.2.2.2.1),r0.1.2.2.2.2.2.2.2.2.2.2.2.2.2.2.2,(0:Int)):Option ((Int × List (Int) × List (Int × Int) × List ((List (Int))) × List (Int) × Int × Int × Int × Int × Int × Int × Int × List (Int × Int) × Int × List (Int × Int × Int × Int × Int × Int)) × Bool)) fun x16=>
 bif !x16.2 then
 some (((0:Int),[],[],[],[],(0:Int),(0:Int),(0:Int),(0:Int),(0:Int),(0:Int),(0:Int),[],(0:Int),[],false),())
 else Option.bind (g_sl12Copy x16.1) fun r17=>
 some ((r17.1.1,r17.1.2.1,r17.1.2.2.1,r17.1.2.2.2.1,r17.1.2.2.2.2.1,r17.1.2.2.2.2.2.1,r17.1.2.2.2.2.2.2.1,r17.1.2.2.2.2.2.2.2.1,r17.1.2.2.2.2.2.2.2.2.1,r17.1.2.2.2.2.2.2.2.2.2.1,r17.1.2.2.2.2.2.2.2.2.2.2.1,r17.1.2.2.2.2.2.2.2.2.2.2.2.1,r17.1.2.2.2.2.2.2.2.2.2.2.2.2.1,r17.1.2.2.2.2.2.2.2.2.2.2.2.2.2.1,r17.1.2.2.2.2.2.2.2.2.2.2.2.2.2.2,true),()):=by kernel_rfl
def c_sDecided:TC:=
 (.seq (.rg [o1 6 (.lit Ty7 [.slice none 0 0]),
 o1 7 (.lit [.b] [.bool false])])
 (.seq (.rg [oc 11 0,
 oc 12 1,
 oc 13 2,
 o3 14 14 [.t 11,.t 12,.t 13],
 o5 (.copy 14) 10 14,
 o5 (.ext 10 0 15) 15 10,
 o1 16 (.ext 10 15 1),
 o5 (.a (.c Ty2 [kV 0,.slice none 0 0,.slice none 0 0,.slice none 0 0,.slice none 0 0,kV 0,kV 0,kV 0,kV 0,kV 0,kV 0,kV 0,.slice none 0 0,kV 0,.slice none 0 0])) 8 1000000001,
 o4 2 [8,15] (.store 8 [] 0 .nil (.t 15)),
 oc 9 16])
 (.seq (.rg [o1 17 (.sli Ty8 []),
 oi 18,
 o1 19 (.load 8 [] 14 (.t 18) 1 true),
 o5 (.app (some 17) 19) 20 17,
 oc 21 9,
 o5 (.copy 20) 6 20,
 oc 7 21])
 .ret)))
def s_sDecided:Sig:=⟨[.rd false [.d],.rd false [.d],.rd false Ct2],(.tup [(false,1),(false,1)] [.sl (.own none) Ct10,.d])⟩
def E_sDecided:TEnv:=envOf [(14,p_sHeadFrom)]
def f_sDecided (n:Nat):Int × Int × (List (Int × Int × Int × Int × Int × Int × Int × Bool × List (Int × Int) × List (Int) × Int × Int × List (Int × Int) × Int))->Option ((List (Int × Int × Int × Int × Int × Int) × Bool) × Unit):=runFn n E_sDecided c_sDecided [[.i .i64],[.i .i64],Ty3] Ty6 [] [6,7] .no
def g_sDecided:=f_sDecided BIG
def p_sDecided:TSp:=⟨s_sDecided,[[.i .i64],[.i .i64],Ty3],Ty6,[],Ou.j .no,g_sDecided⟩
theorem k_sDecided:chkW PG E_sDecided 6 s_sDecided (c_sDecided.ht 22) .no=some (c_sDecided.wc E_sDecided,[6,7]):=by kernel_rfl
theorem ok_sDecided:p_sDecided.Ok PG 6:=mkOk (env_cons ok_sHeadFrom (env_nil PG)) k_sDecided (by kernel_rfl)
theorem e_sDecided (n) (a0) (a1) (a2):f_sDecided n (a0,a1,a2) =
 Option.bind (g_sHeadFrom (a0,a1,a2)) fun r0=>
 bif decide (0+r0.1.2.2.2.2.2.2.2.2.2.2.2.2.2.2.1.length<=4294967296) then
 some (([]++r0.1.2.2.2.2.2.2.2.2.2.2.2.2.2.2.1,r0.1.2.2.2.2.2.2.2.2.2.2.2.2.2.2.2),())
 else none:=by kernel_rfl
def c_iin:TC:=
 (.seq (.rg [o1 6 (.lit [.b] [.bool false])])
 (.seq (.join [⟨6,[.b],false⟩] 32704 none (.rg [oc 7 0,
 oc 8 1,
 o1 9 (.data (.bin .geq) [.t 7,.t 8]),
 oc 10 9,
 o2 11 (.copy 0) 3 true,
 o2 12 (.copy 2) 3 true,
 o2 13 (.data (.bin .leq) [.t 11,.t 12]) 3 true,
 o7 10 (.t 13) (.c (.bool false)) 14,
 oc 6 14]))
 .ret))
def s_iin:Sig:=⟨[.rd false [.d],.rd false [.d],.rd false [.d]],(.one false [.d])⟩
def E_iin:TEnv:=envOf []
def f_iin (n:Nat):Int × Int × Int->Option ((Bool) × Unit):=runFn n E_iin c_iin [[.i .i64],[.i .i64],[.i .i64]] [.b] [] [6] .no
def g_iin:=f_iin BIG
def p_iin:TSp:=⟨s_iin,[[.i .i64],[.i .i64],[.i .i64]],[.b],[],Ou.j .no,g_iin⟩
theorem k_iin:chkW PG E_iin 63 s_iin (c_iin.ht 15) .no=some (c_iin.wc E_iin,[6]):=by kernel_rfl
theorem ok_iin:p_iin.Ok PG 63:=mkOk (env_nil PG) k_iin (by kernel_rfl)
theorem e_iin (n) (a0) (a1) (a2):f_iin n (a0,a1,a2) =
 Option.bind (bif decide (a1<=a0) then
 some (decide (a0<=a2))
 else some false:Option (Bool)) fun x0=>
 some (x0,()):=by kernel_rfl
def c_ifirst:TC:=
 (.seq (.rg [o1 2 (.lit [.sl [.i .i64]] [.slice none 0 0])])
 (.seq (.rg [o1 3 (.lit [.sl [.i .i64]] [.slice none 0 0])])
 (.seq (.join [⟨3,[.sl [.i .i64]],false⟩] 16376 none (.seq (.rg [oc 5 0,
 o1 6 (kL 0)])
 (.block 0 (.loop [⟨3,[.sl [.i .i64]],false⟩,⟨6,[.i .i64],false⟩] 16344
 (.seq (.rg [o1 7 (.data (.bin .lss) [.t 6,.t 5])])
 (.seq (.cond (.t 7)
 .skip
 (.exit 0))
 (.seq (.block 1 (.seq (.rg [oc 8 6,
 oc 4 8])
 (.rg [o5 (.copy 3) 9 3,
 oc 10 4,
 o1 11 (.sli [.i .i64] [.t 10]),
 o5 (.app (some 9) 11) 12 9,
 o5 (.copy 12) 3 12])))
 (.rg [o1 13 (.data (.bin .add) [.t 6,kD 1]),
 oc 6 13]))))))))
 (.seq (.rg [o5 (.copy 3) 14 3,
 o5 (.copy 14) 2 14])
 .ret))))
def s_ifirst:Sig:=⟨[.rd false [.d]],(.one false Ct9)⟩
def E_ifirst:TEnv:=envOf []
def f_ifirst (n:Nat):Int->Option ((List (Int)) × Unit):=runFn n E_ifirst c_ifirst [[.i .i64]] [.sl [.i .i64]] [] [2] .no
def g_ifirst:=f_ifirst BIG
def p_ifirst:TSp:=⟨s_ifirst,[[.i .i64]],[.sl [.i .i64]],[],Ou.j .no,g_ifirst⟩
theorem k_ifirst:chkW PG E_ifirst 64 s_ifirst (c_ifirst.ht 15) .no=some (c_ifirst.wc E_ifirst,[2]):=by kernel_rfl
theorem ok_ifirst:p_ifirst.Ok PG 64:=mkOk (env_nil PG) k_ifirst (by kernel_rfl)
theorem e_ifirst (n) (a0):f_ifirst n a0 =
 Option.bind (loopT n (X:=(List (Int)) × Int) (B:=(List (Int))) (fun self1 x0=>
 bif decide (x0.2<a0) then
 bif decide (x0.1.length+[x0.2].length<=4294967296) then
 self1 (x0.1++[x0.2],IntKind.wrap .i64 (x0.2+(1:Int)))
 else none
 else some x0.1) ([],(0:Int)):Option ((List (Int)))) fun x2=>
 some (x2,()):=by kernel_rfl
def c_iHeadNew:TC:=
 (.seq (.rg [o5 (.a (.c Ty2 [kV 0,.slice none 0 0,.slice none 0 0,.slice none 0 0,.slice none 0 0,kV 0,kV 0,kV 0,kV 0,kV 0,kV 0,kV 0,.slice none 0 0,kV 0,.slice none 0 0])) 4 1000000001,
 o1 5 (.lit [.b] [.bool false])])
 (.seq (.seq (.join [⟨15,[.b],false⟩] 65280 none (.rg [oc 8 0,
 o3 9 63 [.t 8,kO 1,kO 12],
 o1 10 (.data .not [.t 9]),
 oc 11 10,
 o2 12 (.copy 1) 3 false,
 ⟨false,[],[],.call 1 63 [.t 12,kO 1,kO 3] .no,[13],(some 13),some (3,false)⟩,
 o2 14 (.data .not [.t 13]) 3 false,
 o7 11 (.c (.bool true)) (.t 14) 15]))
 (.cond (.t 15)
 (.seq (.rg [o1 16 (.build Ty2 []),
 o4 2 [4,16] (.store 4 [] 0 .nil (.t 16)),
 o1 5 (.lit [.b] [.bool false])])
 .ret)
 .skip))
 (.seq (.rg [oc 17 0,
 o1 18 (.build Ty2 [(0,.t 17)]),
 o5 (.a (.c Ty2 [kV 0,.slice none 0 0,.slice none 0 0,.slice none 0 0,.slice none 0 0,kV 0,kV 0,kV 0,kV 0,kV 0,kV 0,kV 0,.slice none 0 0,kV 0,.slice none 0 0])) 6 1000000001,
 o4 2 [6,18] (.store 6 [] 0 .nil (.t 18))])
 (.seq (.join [⟨6,Ty2,false⟩] 8589410496 none (.seq (.rg [oc 19 0,
 o1 20 (kL 0)])
 (.block 0 (.loop [⟨6,Ty2,false⟩,⟨20,[.i .i64],false⟩] 8588886208
 (.seq (.rg [o1 21 (.data (.bin .lss) [.t 20,.t 19])])
 (.seq (.cond (.t 21)
 .skip
 (.exit 0))
 (.seq (.block 1 (.seq (.rg [oc 22 20,
 oc 7 22])
 (.rg [oi 23,
 o1 24 (.load 6 [] 1 (.t 23) 1 true),
 oc 25 7,
 oc 26 1,
 o1 27 (.data (.bin .rem) [.t 25,.t 26]),
 o1 28 (.data (.bin .add) [kD 1,.t 27]),
 o1 29 (.sli [.i .i64] [.t 28]),
 ⟨false,[24],[],.det 2 (.app (some 24) 29),[30,24,24,6],(some 30),none⟩,
 oi 31,
 o4 2 [6,30,24] (.store 6 [] 1 (.t 31) (.t 30))])))
 (.rg [o1 32 (.data (.bin .add) [.t 20,kD 1]),
 oc 20 32]))))))))
 (.seq (.join [⟨6,Ty2,false⟩] 562941363486784 none (.seq (.rg [oc 33 1,
 o1 34 (kL 0)])
 (.block 2 (.loop [⟨6,Ty2,false⟩,⟨34,[.i .i64],false⟩] 562932773552192
 (.seq (.rg [o1 35 (.data (.bin .lss) [.t 34,.t 33])])
 (.seq (.cond (.t 35)
 .skip
 (.exit 2))
 (.seq (.block 3 (.seq (.rg [oi 36,
 o1 37 (.load 6 [] 3 (.t 36) 1 true),
 oc 38 0,
 o3 39 64 [.t 38],
 o5 (.sli [.sl [.i .i64]] [.t 39]) 40 39,
 ⟨false,[37],[],.det 3 (.app (some 37) 40),[41,37,40,37,6],(some 41),none⟩,
 oi 42,
 o4 2 [6,41,37] (.store 6 [] 3 (.t 42) (.t 41))])
 (.rg [oi 43,
 o1 44 (.load 6 [] 4 (.t 43) 1 true),
 o5 (.sli [.i .i64] [kO 0]) 45 1000000001,
 ⟨false,[44],[],.det 2 (.app (some 44) 45),[46,44,44,6],(some 46),none⟩,
 oi 47,
 o4 2 [6,46,44] (.store 6 [] 4 (.t 47) (.t 46))])))
 (.rg [o1 48 (.data (.bin .add) [.t 34,kD 1]),
 oc 34 48]))))))))
 (.seq (.rg [o1 49 (.load 6 [] 0 .nil 15 true),
 ⟨false,[49],[],.det 2 (.store 4 [] 0 .nil (.t 49)),[4,49,49,6],none,none⟩,
 o1 5 (.lit [.b] [.bool true])])
 .ret))))))
def s_iHeadNew:Sig:=⟨[.rd false [.d],.rd false [.d]],(.tup [(true,15),(false,1)] Ct0)⟩
def E_iHeadNew:TEnv:=envOf [(63,p_iin),(64,p_ifirst)]
def f_iHeadNew (n:Nat):Int × Int->Option ((Int × List (Int) × List (Int × Int) × List (List (Int)) × List (Int) × Int × Int × Int × Int × Int × Int × Int × List (Int × Int) × Int × List (Int × Int × Int × Int × Int × Int) × Bool) × Unit):=runFn n E_iHeadNew c_iHeadNew [[.i .i64],[.i .i64]] Ty1 [] [4,5] .no
def g_iHeadNew:=f_iHeadNew BIG
def p_iHeadNew:TSp:=⟨s_iHeadNew,[[.i .i64],[.i .i64]],Ty1,[],Ou.j .no,g_iHeadNew⟩
theorem k_iHeadNew:chkW PG E_iHeadNew 29 s_iHeadNew (c_iHeadNew.ht 50) .no=some (c_iHeadNew.wc E_iHeadNew,[4,5]):=by kernel_rfl
theorem ok_iHeadNew:p_iHeadNew.Ok PG 29:=mkOk (env_cons ok_iin (env_cons ok_ifirst (env_nil PG))) k_iHeadNew (by kernel_rfl)
theorem e_iHeadNew (n) (a0) (a1):f_iHeadNew n (a0,a1) =
 Option.bind (Option.bind (g_iin (a0,(1:Int),(12:Int))) fun r0=>
 bif !r0.1 then
 some true
 else Option.bind (g_iin (a1,(1:Int),(3:Int))) fun r1=>
 some !r1.1:Option (Bool)) fun x2=>
 bif x2 then
 some (((0:Int),[],[],[],[],(0:Int),(0:Int),(0:Int),(0:Int),(0:Int),(0:Int),(0:Int),[],(0:Int),[],false),())
 else Option.bind (loopT n (X:=(Int × List (Int) × List (Int × Int) × List ((List (Int))) × List (Int) × Int × Int × Int × Int × Int × Int × Int × List (Int × Int) × Int × List (Int × Int × Int × Int × Int × Int)) × Int) (B:=(Int × List (Int) × List (Int × Int) × List ((List (Int))) × List (Int) × Int × Int × Int × Int × Int × Int × Int × List (Int × Int) × Int × List (Int × Int × Int × Int × Int × Int))) (fun self4 x3=>
 bif decide (x3.2<a0) then
 bif decide (a1=0) then
 none
 else bif decide (x3.1.2.1.length+([IntKind.wrap .i64 ((1:Int)+(Int.tmod x3.2 a1))]).length<=4294967296) then
 self4 ((x3.1.1,x3.1.2.1++([IntKind.wrap .i64 ((1:Int)+(Int.tmod x3.2 a1))]),x3.1.2.2),IntKind.wrap .i64 (x3.2+(1:Int)))
 else none
 else some x3.1) ((a0,[],[],[],[],(0:Int),(0:Int),(0:Int),(0:Int),(0:Int),(0:Int),(0:Int),[],(0:Int),[]),(0:Int)):Option ((Int × List (Int) × List (Int × Int) × List ((List (Int))) × List (Int) × Int × Int × Int × Int × Int × Int × Int × List (Int × Int) × Int × List (Int × Int × Int × Int × Int × Int)))) fun x5=>
 Option.bind (loopT n (X:=(Int × List (Int) × List (Int × Int) × List ((List (Int))) × List (Int) × Int × Int × Int × Int × Int × Int × Int × List (Int × Int) × Int × List (Int × Int × Int × Int × Int × Int)) × Int) (B:=(Int × List (Int) × List (Int × Int) × List ((List (Int))) × List (Int) × Int × Int × Int × Int × Int × Int × Int × List (Int × Int) × Int × List (Int × Int × Int × Int × Int × Int))) (fun self7 x6=>
 bif decide (x6.2<a1) then
 Option.bind (g_ifirst a0) fun r8=>
 bif decide (x6.1.2.2.2.1.length+[r8.1].length<=4294967296) then
 bif decide (x6.1.2.2.2.2.1.length+([(0:Int)]).length<=4294967296) then
 self7 ((x6.1.1,x6.1.2.1,x6.1.2.2.1,x6.1.2.2.2.1++[r8.1],x6.1.2.2.2.2.1++([(0:Int)]),x6.1.2.2.2.2.2),IntKind.wrap .i64 (x6.2+(1:Int)))
 else none
 else none
 else some x6.1) (x5,(0:Int)):Option ((Int × List (Int) × List (Int × Int) × List ((List (Int))) × List (Int) × Int × Int × Int × Int × Int × Int × Int × List (Int × Int) × Int × List (Int × Int × Int × Int × Int × Int)))) fun x9=>
 some ((x9.1,x9.2.1,x9.2.2.1,x9.2.2.2.1,x9.2.2.2.2.1,x9.2.2.2.2.2.1,x9.2.2.2.2.2.2.1,x9.2.2.2.2.2.2.2.1,x9.2.2.2.2.2.2.2.2.1,x9.2.2.2.2.2.2.2.2.2.1,x9.2.2.2.2.2.2.2.2.2.2.1,x9.2.2.2.2.2.2.2.2.2.2.2.1,x9.2.2.2.2.2.2.2.2.2.2.2.2.1,x9.2.2.2.2.2.2.2.2.2.2.2.2.2.1,x9.2.2.2.2.2.2.2.2.2.2.2.2.2.2,true),()):=by kernel_rfl
def c_icopyInts:TC:=
 (.seq (.rg [o1 2 (.lit [.sl [.i .i64]] [.slice none 0 0])])
 (.seq (.rg [oc 3 0,
 o1 4 (.app none 3),
 o5 (.copy 4) 2 4])
 .ret))
def s_icopyInts:Sig:=⟨[.rd false Ct9],(.one false Ct9)⟩
def E_icopyInts:TEnv:=envOf []
def f_icopyInts (n:Nat):List (Int)->Option ((List (Int)) × Unit):=runFn n E_icopyInts c_icopyInts [[.sl [.i .i64]]] [.sl [.i .i64]] [] [2] .no
def g_icopyInts:=f_icopyInts BIG
def p_icopyInts:TSp:=⟨s_icopyInts,[[.sl [.i .i64]]],[.sl [.i .i64]],[],Ou.j .no,g_icopyInts⟩
theorem k_icopyInts:chkW PG E_icopyInts 71 s_icopyInts (c_icopyInts.ht 5) .no=some (c_icopyInts.wc E_icopyInts,[2]):=by kernel_rfl
theorem ok_icopyInts:p_icopyInts.Ok PG 71:=mkOk (env_nil PG) k_icopyInts (by kernel_rfl)
theorem e_icopyInts (n) (a0):f_icopyInts n a0 =
 bif decide (a0.length<=4294967296) then
 some (a0,())
 else none:=by kernel_rfl
def c_icopyEdges:TC:=
 (.seq (.rg [o1 2 (.lit [.sl [.i .i64,.i .i64]] [.slice none 0 0])])
 (.seq (.rg [oc 3 0,
 o1 4 (.app none 3),
 o5 (.copy 4) 2 4])
 .ret))
def s_icopyEdges:Sig:=⟨[.rd false Ct8],(.one false Ct8)⟩
def E_icopyEdges:TEnv:=envOf []
def f_icopyEdges (n:Nat):(List (Int × Int))->Option ((List (Int × Int)) × Unit):=runFn n E_icopyEdges c_icopyEdges [[.sl [.i .i64,.i .i64]]] [.sl [.i .i64,.i .i64]] [] [2] .no
def g_icopyEdges:=f_icopyEdges BIG
def p_icopyEdges:TSp:=⟨s_icopyEdges,[[.sl [.i .i64,.i .i64]]],[.sl [.i .i64,.i .i64]],[],Ou.j .no,g_icopyEdges⟩
theorem k_icopyEdges:chkW PG E_icopyEdges 91 s_icopyEdges (c_icopyEdges.ht 5) .no=some (c_icopyEdges.wc E_icopyEdges,[2]):=by kernel_rfl
theorem ok_icopyEdges:p_icopyEdges.Ok PG 91:=mkOk (env_nil PG) k_icopyEdges (by kernel_rfl)
theorem e_icopyEdges (n) (a0):f_icopyEdges n a0 =
 bif decide (a0.length<=4294967296) then
 some (a0,())
 else none:=by kernel_rfl
def c_icopyTask:TC:=
 (.seq (.rg [o1 1 (.a (.t 0)),
 o5 (.a (.c Ty5 [kV 0,kV 0,kV 0,kV 0,kV 0,kV 0,kV 0,.slice none 0 0,kV 0])) 2 1000000001])
 (.seq (.rg [oi 3,
 o1 4 (.idx (.t 3)),
 o1 5 (.load 1 [] 7 (.t 4) 1 false),
 o3 6 91 [.t 5],
 oi 7,
 o1 8 (.idx (.t 7)),
 o4 2 [1,6] (.store 1 [] 7 (.t 8) (.t 6))])
 (.seq (.rg [o1 9 (.load 1 [] 0 .nil 9 true),
 ⟨false,[9],[],.det 2 (.store 2 [] 0 .nil (.t 9)),[2,9,9,1],none,none⟩])
 .ret)))
def s_icopyTask:Sig:=⟨[.rd true Ct5],(.one true Ct5)⟩
def E_icopyTask:TEnv:=envOf [(91,p_icopyEdges)]
def f_icopyTask (n:Nat):(Int × Int × Int × Int × Int × Int × Int × List (Int × Int) × Int)->Option ((Int × Int × Int × Int × Int × Int × Int × List (Int × Int) × Int) × Unit):=runFn n E_icopyTask c_icopyTask [Ty5] Ty5 [] [2] .no
def g_icopyTask:=f_icopyTask BIG
def p_icopyTask:TSp:=⟨s_icopyTask,[Ty5],Ty5,[],Ou.j .no,g_icopyTask⟩
theorem k_icopyTask:chkW PG E_icopyTask 92 s_icopyTask (c_icopyTask.ht 10) .no=some (c_icopyTask.wc E_icopyTask,[2]):=by kernel_rfl
theorem ok_icopyTask:p_icopyTask.Ok PG 92:=mkOk (env_cons ok_icopyEdges (env_nil PG)) k_icopyTask (by kernel_rfl)
theorem e_icopyTask (n) (a0):f_icopyTask n a0 =
 Option.bind (g_icopyEdges a0.2.2.2.2.2.2.2.1) fun r0=>
 some ((a0.1,a0.2.1,a0.2.2.1,a0.2.2.2.1,a0.2.2.2.2.1,a0.2.2.2.2.2.1,a0.2.2.2.2.2.2.1,r0.1,a0.2.2.2.2.2.2.2.2),()):=by kernel_rfl
def c_icopyHead:TC:=
 (.seq (.rg [o1 1 (.a (.t 0)),
 o5 (.a (.c Ty2 [kV 0,.slice none 0 0,.slice none 0 0,.slice none 0 0,.slice none 0 0,kV 0,kV 0,kV 0,kV 0,kV 0,kV 0,kV 0,.slice none 0 0,kV 0,.slice none 0 0])) 2 1000000001])
 (.seq (.rg [⟨false,[],[1000000001],.det 1 (.idx .nil),[6],(some 6),none⟩,
 ⟨false,[],[1000000001],.det 1 (.load 1 [] 0 (.t 6) 1 false),[7],(some 7),none⟩,
 ⟨false,[],[1000000001],.det 1 (.idx .nil),[8],(some 8),none⟩,
 ⟨false,[],[1000000001],.det 1 (.load 1 [] 1 (.t 8) 1 false),[9],(some 9),none⟩,
 ⟨false,[],[1000000001],.call 1 71 [.t 9] .no,[10],(some 10),none⟩,
 ⟨false,[],[1000000001],.det 1 (.idx .nil),[11],(some 11),none⟩,
 ⟨false,[],[1000000001],.det 1 (.load 1 [] 2 (.t 11) 1 false),[12],(some 12),none⟩,
 ⟨false,[],[1000000001],.call 1 91 [.t 12] .no,[13],(some 13),none⟩,
 ⟨false,[],[1000000001],.det 1 (.idx .nil),[14],(some 14),none⟩,
 ⟨false,[],[1000000001],.det 1 (.load 1 [] 4 (.t 14) 1 false),[15],(some 15),none⟩,
 ⟨false,[],[1000000001],.call 1 71 [.t 15] .no,[16],(some 16),none⟩,
 ⟨false,[],[1000000001],.det 1 (.idx .nil),[17],(some 17),none⟩,
 ⟨false,[],[1000000001],.det 1 (.load 1 [] 5 (.t 17) 9 false),[18],(some 18),none⟩,
 ⟨false,[],[1000000001],.call 1 92 [.t 18] .no,[19],(some 19),none⟩,
 ⟨false,[],[1000000001],.det 1 (.idx .nil),[20],(some 20),none⟩,
 ⟨false,[],[1000000001],.det 1 (.load 1 [] 14 (.t 20) 1 false),[21],(some 21),none⟩,
 ⟨false,[],[1000000001],.det 1 (.app none 21),[22],(some 22),none⟩,
 ⟨false,[],[1000000001],.det 6 (.build Ty2 [(0,.t 7),(1,.t 10),(2,.t 13),(4,.t 16),(5,.t 19),(14,.t 22)]),[23,10,13,16,19,22],(some 23),none⟩,
 o5 (.a (.c Ty2 [kV 0,.slice none 0 0,.slice none 0 0,.slice none 0 0,.slice none 0 0,kV 0,kV 0,kV 0,kV 0,kV 0,kV 0,kV 0,.slice none 0 0,kV 0,.slice none 0 0])) 3 1000000001,
 o4 2 [3,23] (.store 3 [] 0 .nil (.t 23))])
 (.seq (.join [⟨3,Ty2,false⟩] 549739036712 none (.seq (.rg [oi 24,
 o1 25 (.load 1 [] 3 (.t 24) 1 false),
 o1 26 (.len 25),
 o1 27 (kL 0)])
 (.block 0 (.loop [⟨3,Ty2,false⟩,⟨27,[.i .i64],false⟩] 549621596200
 (.seq (.rg [o1 28 (.data (.bin .lss) [.t 27,.t 26])])
 (.seq (.cond (.t 28)
 .skip
 (.exit 0))
 (.seq (.block 1 (.seq (.rg [o1 29 (.index 25 (.t 27)),
 o1 30 (.load 25 [(0,1)] 0 (.t 29) 1 false),
 oc 5 30])
 (.rg [oi 31,
 o1 32 (.load 3 [] 3 (.t 31) 1 true),
 oc 33 5,
 o3 34 71 [.t 33],
 o5 (.sli [.sl [.i .i64]] [.t 34]) 35 34,
 ⟨false,[32],[],.det 3 (.app (some 32) 35),[36,32,35,32,3],(some 36),none⟩,
 oi 37,
 o4 2 [3,36,32] (.store 3 [] 3 (.t 37) (.t 36))])))
 (.rg [o1 38 (.data (.bin .add) [.t 27,kD 1]),
 oc 27 38]))))))))
 (.seq (.rg [o1 39 (.load 3 [] 0 .nil 15 true),
 ⟨false,[39],[],.det 2 (.store 2 [] 0 .nil (.t 39)),[2,39,39,3],none,none⟩])
 .ret))))
def s_icopyHead:Sig:=⟨[.rd true Ct1],(.one true Ct1)⟩
def E_icopyHead:TEnv:=envOf [(71,p_icopyInts),(91,p_icopyEdges),(92,p_icopyTask)]
def f_icopyHead (n:Nat):(Int × List (Int) × List (Int × Int) × List (List (Int)) × List (Int) × Int × Int × Int × Int × Int × Int × Int × List (Int × Int) × Int × List (Int × Int × Int × Int × Int × Int))->Option ((Int × List (Int) × List (Int × Int) × List (List (Int)) × List (Int) × Int × Int × Int × Int × Int × Int × Int × List (Int × Int) × Int × List (Int × Int × Int × Int × Int × Int)) × Unit):=runFn n E_icopyHead c_icopyHead [Ty2] Ty2 [] [2] .no
def g_icopyHead:=f_icopyHead BIG
def p_icopyHead:TSp:=⟨s_icopyHead,[Ty2],Ty2,[],Ou.j .no,g_icopyHead⟩
theorem k_icopyHead:chkW PG E_icopyHead 65 s_icopyHead (c_icopyHead.ht 40) .no=some (c_icopyHead.wc E_icopyHead,[2]):=by kernel_rfl
theorem ok_icopyHead:p_icopyHead.Ok PG 65:=mkOk (env_cons ok_icopyInts (env_cons ok_icopyEdges (env_cons ok_icopyTask (env_nil PG)))) k_icopyHead (by kernel_rfl)
theorem e_icopyHead (n) (a0):f_icopyHead n a0 =
 Option.bind (g_icopyInts a0.2.1) fun r0=>
 Option.bind (g_icopyEdges a0.2.2.1) fun r1=>
 Option.bind (g_icopyInts a0.2.2.2.2.1) fun r2=>
 Option.bind (g_icopyTask (a0.2.2.2.2.2.1,a0.2.2.2.2.2.2.1,a0.2.2.2.2.2.2.2.1,a0.2.2.2.2.2.2.2.2.1,a0.2.2.2.2.2.2.2.2.2.1,a0.2.2.2.2.2.2.2.2.2.2.1,a0.2.2.2.2.2.2.2.2.2.2.2.1,a0.2.2.2.2.2.2.2.2.2.2.2.2.1,a0.2.2.2.2.2.2.2.2.2.2.2.2.2.1)) fun r3=>
 bif decide (a0.2.2.2.2.2.2.2.2.2.2.2.2.2.2.length<=4294967296) then
 Option.bind (loopT n (X:=(Int × List (Int) × List (Int × Int) × List ((List (Int))) × List (Int) × Int × Int × Int × Int × Int × Int × Int × List (Int × Int) × Int × List (Int × Int × Int × Int × Int × Int)) × Int) (B:=(Int × List (Int) × List (Int × Int) × List ((List (Int))) × List (Int) × Int × Int × Int × Int × Int × Int × Int × List (Int × Int) × Int × List (Int × Int × Int × Int × Int × Int))) (fun self5 x4=>
 bif decide (x4.2<(a0.2.2.2.1.length:Int)) then
 bnd a0.2.2.2.1.length x4.2 fun n6=>
 Option.bind a0.2.2.2.1[n6]? fun y7=>
 Option.bind (g_icopyInts y7) fun r8=>
 bif decide (x4.1.2.2.2.1.length+[r8.1].length<=4294967296) then
 self5 ((x4.1.1,x4.1.2.1,x4.1.2.2.1,x4.1.2.2.2.1++[r8.1],x4.1.2.2.2.2),IntKind.wrap .i64 (x4.2+(1:Int)))
 else none
 else some x4.1) ((a0.1,r0.1,r1.1,[],r2.1,r3.1.1,r3.1.2.1,r3.1.2.2.1,r3.1.2.2.2.1,r3.1.2.2.2.2.1,r3.1.2.2.2.2.2.1,r3.1.2.2.2.2.2.2.1,r3.1.2.2.2.2.2.2.2.1,r3.1.2.2.2.2.2.2.2.2,a0.2.2.2.2.2.2.2.2.2.2.2.2.2.2),(0:Int)):Option ((Int × List (Int) × List (Int × Int) × List ((List (Int))) × List (Int) × Int × Int × Int × Int × Int × Int × Int × List (Int × Int) × Int × List (Int × Int × Int × Int × Int × Int)))) fun x9=>
 some (x9,())
 else none:=by kernel_rfl
def c_ilabelsOk:TC:=
 (.seq (.rg [o1 4 (.lit [.b] [.bool false])])
 (.seq (.seq (.rg [oc 7 1,
 o1 8 (.len 7),
 oc 9 0,
 o1 10 (.data (.bin .neq) [.t 8,.t 9])])
 (.cond (.t 10)
 (.seq (.rg [o1 4 (.lit [.b] [.bool false])])
 .ret)
 .skip))
 (.seq (.join [] 2147481712 (some [⟨4,[.b],false⟩]) (.seq (.rg [oc 11 1,
 o1 12 (.len 11),
 o1 13 (kL 0)])
 (.block 0 (.loop [⟨13,[.i .i64],false⟩] 2147475568
 (.seq (.rg [o1 14 (.data (.bin .lss) [.t 13,.t 12])])
 (.seq (.cond (.t 14)
 .skip
 (.exit 0))
 (.seq (.join [] 1073709168 (some [⟨4,[.b],false⟩]) (.block 1 (.seq (.rg [oc 15 13,
 o1 16 (.index 11 (.t 13)),
 o1 17 (.load 11 [(0,1)] 0 (.t 16) 1 false),
 oc 5 15,
 oc 6 17])
 (.seq (.join [⟨29,[.b],false⟩] 1073479680 none (.rg [oc 18 6,
 oc 19 5,
 o3 20 63 [.t 18,kO 0,.t 19],
 o1 21 (.data .not [.t 20]),
 oc 22 21,
 o2 23 (.copy 1) 4 false,
 o2 24 (.copy 6) 4 false,
 o2 25 (.index 23 (.t 24)) 4 false,
 o2 26 (.load 23 [(0,1)] 0 (.t 25) 1 false) 4 false,
 o2 27 (.copy 6) 4 false,
 o2 28 (.data (.bin .neq) [.t 26,.t 27]) 4 false,
 o7 22 (.c (.bool true)) (.t 28) 29]))
 (.cond (.t 29)
 (.seq (.rg [o1 4 (.lit [.b] [.bool false])])
 .ret)
 .skip)))))
 (.rg [o1 30 (.data (.bin .add) [.t 13,kD 1]),
 oc 13 30]))))))))
 (.seq (.rg [o1 4 (.lit [.b] [.bool true])])
 .ret))))
def s_ilabelsOk:Sig:=⟨[.rd false [.d],.rd false Ct9],(.one false [.d])⟩
def E_ilabelsOk:TEnv:=envOf [(63,p_iin)]
def f_ilabelsOk (n:Nat):Int × List (Int)->Option ((Bool) × Unit):=runFn n E_ilabelsOk c_ilabelsOk [[.i .i64],[.sl [.i .i64]]] [.b] [] [4] .no
def g_ilabelsOk:=f_ilabelsOk BIG
def p_ilabelsOk:TSp:=⟨s_ilabelsOk,[[.i .i64],[.sl [.i .i64]]],[.b],[],Ou.j .no,g_ilabelsOk⟩
theorem k_ilabelsOk:chkW PG E_ilabelsOk 93 s_ilabelsOk (c_ilabelsOk.ht 31) .no=some (c_ilabelsOk.wc E_ilabelsOk,[4]):=by kernel_rfl
theorem ok_ilabelsOk:p_ilabelsOk.Ok PG 93:=mkOk (env_cons ok_iin (env_nil PG)) k_ilabelsOk (by kernel_rfl)
theorem e_ilabelsOk (n) (a0) (a1):f_ilabelsOk n (a0,a1) =
 bif !decide ((a1.length:Int)=a0) then
  some (false,())
 else Option.bind (loopT n (X:=Int) (B:=(Unit) ⊕ (Bool)) (fun self1 x0=>
  bif decide (x0<(a1.length:Int)) then
   Option.bind (bnd a1.length x0 fun n2=>
    Option.bind a1[n2]? fun y3=>
    Option.bind (Option.bind (g_iin (y3,(0:Int),x0)) fun r4=>
     bif !r4.1 then
      some true
     else bnd a1.length y3 fun n5=>
     Option.bind a1[n5]? fun y6=>
     some (!decide (y6=y3)):Option (Bool)) fun x7=>
    bif x7 then
     some (Sum.inr false)
    else some (Sum.inl ()):Option ((Unit) ⊕ (Bool))) fun y=>match y with
   | .inl x8=>
    self1 (IntKind.wrap .i64 (x0+(1:Int)))
   | .inr x8=>
    some (Sum.inr x8)
  else some (Sum.inl ())) (0:Int):Option ((Unit) ⊕ (Bool))) fun y=>match y with
 | .inl x9=>
  some (true,())
 | .inr x9=>
  some (x9,()):=by kernel_rfl
def c_iEdgeOk:TC:=
 (.seq (.rg [o1 3 (.a (.t 1)),
 o1 4 (.lit [.b] [.bool false])])
 (.seq (.join [⟨4,[.b],false⟩] 268435440 none (.rg [oc 5 0,
 o3 6 63 [.t 5,kO 1,kO 12],
 oc 7 6,
 o2 8 (.idx .nil) 2 true,
 o2 9 (.load 3 [] 0 (.t 8) 1 false) 2 true,
 o2 10 (.copy 0) 2 true,
 o2 11 (.data (.bin .sub) [.t 10,kD 1]) 2 true,
 ⟨false,[],[],.call 1 63 [.t 9,kO 0,.t 11] .no,[12],(some 12),some (2,true)⟩,
 o7 7 (.t 12) (.c (.bool false)) 13,
 oc 14 13,
 o2 15 (.idx .nil) 9 true,
 o2 16 (.load 3 [] 1 (.t 15) 1 false) 9 true,
 o2 17 (.copy 0) 9 true,
 o2 18 (.data (.bin .sub) [.t 17,kD 1]) 9 true,
 ⟨false,[],[],.call 1 63 [.t 16,kO 0,.t 18] .no,[19],(some 19),some (9,true)⟩,
 o7 14 (.t 19) (.c (.bool false)) 20,
 oc 21 20,
 o2 22 (.idx .nil) 16 true,
 o2 23 (.load 3 [] 0 (.t 22) 1 false) 16 true,
 o2 24 (.idx .nil) 16 true,
 o2 25 (.load 3 [] 1 (.t 24) 1 false) 16 true,
 o2 26 (.data (.bin .lss) [.t 23,.t 25]) 16 true,
 o7 21 (.t 26) (.c (.bool false)) 27,
 oc 4 27]))
 .ret))
def s_iEdgeOk:Sig:=⟨[.rd false [.d],.rd true [.d,.d]],(.one false [.d])⟩
def E_iEdgeOk:TEnv:=envOf [(63,p_iin)]
def f_iEdgeOk (n:Nat):Int × (Int × Int)->Option ((Bool) × Unit):=runFn n E_iEdgeOk c_iEdgeOk [[.i .i64],[.i .i64,.i .i64]] [.b] [] [4] .no
def g_iEdgeOk:=f_iEdgeOk BIG
def p_iEdgeOk:TSp:=⟨s_iEdgeOk,[[.i .i64],[.i .i64,.i .i64]],[.b],[],Ou.j .no,g_iEdgeOk⟩
theorem k_iEdgeOk:chkW PG E_iEdgeOk 113 s_iEdgeOk (c_iEdgeOk.ht 28) .no=some (c_iEdgeOk.wc E_iEdgeOk,[4]):=by kernel_rfl
theorem ok_iEdgeOk:p_iEdgeOk.Ok PG 113:=mkOk (env_cons ok_iin (env_nil PG)) k_iEdgeOk (by kernel_rfl)
theorem e_iEdgeOk (n) (a0) (a1):f_iEdgeOk n (a0,a1) =
 Option.bind (Option.bind (g_iin (a0,(1:Int),(12:Int))) fun r0=>
 bif r0.1 then
 Option.bind (g_iin (a1.1,(0:Int),IntKind.wrap .i64 (a0-(1:Int)))) fun r1=>
 bif r1.1 then
 Option.bind (g_iin (a1.2,(0:Int),IntKind.wrap .i64 (a0-(1:Int)))) fun r2=>
 bif r2.1 then
 some (decide (a1.1<a1.2))
 else some false
 else some false
 else some false:Option (Bool)) fun x3=>
 some (x3,()):=by kernel_rfl
def c_iahead:TC:=
 (.seq (.rg [o1 2 (.a (.t 0)),
 o1 3 (.a (.t 1)),
 o1 4 (.lit [.b] [.bool false])])
 (.seq (.join [⟨4,[.b],false⟩] 16777200 none (.rg [oi 5,
 o1 6 (.load 2 [] 0 (.t 5) 1 false),
 oi 7,
 o1 8 (.load 3 [] 0 (.t 7) 1 false),
 o1 9 (.data (.bin .lss) [.t 6,.t 8]),
 oc 10 9,
 o2 11 (.idx .nil) 5 false,
 o2 12 (.load 2 [] 0 (.t 11) 1 false) 5 false,
 o2 13 (.idx .nil) 5 false,
 o2 14 (.load 3 [] 0 (.t 13) 1 false) 5 false,
 o2 15 (.data (.bin .eql) [.t 12,.t 14]) 5 false,
 o2 16 (.copy 15) 5 false,
 o2 17 (.idx .nil) 11 true,
 o2 18 (.load 2 [] 1 (.t 17) 1 false) 11 true,
 o2 19 (.idx .nil) 11 true,
 o2 20 (.load 3 [] 1 (.t 19) 1 false) 11 true,
 o2 21 (.data (.bin .lss) [.t 18,.t 20]) 11 true,
 ⟨false,[],[],.pick 16 (.t 21) (.c (.bool false)),[22],(some 22),some (5,false)⟩,
 o7 10 (.c (.bool true)) (.t 22) 23,
 oc 4 23]))
 .ret))
def s_iahead:Sig:=⟨[.rd true [.d,.d],.rd true [.d,.d]],(.one false [.d])⟩
def E_iahead:TEnv:=envOf []
def f_iahead (n:Nat):(Int × Int) × (Int × Int)->Option ((Bool) × Unit):=runFn n E_iahead c_iahead [[.i .i64,.i .i64],[.i .i64,.i .i64]] [.b] [] [4] .no
def g_iahead:=f_iahead BIG
def p_iahead:TSp:=⟨s_iahead,[[.i .i64,.i .i64],[.i .i64,.i .i64]],[.b],[],Ou.j .no,g_iahead⟩
theorem k_iahead:chkW PG E_iahead 115 s_iahead (c_iahead.ht 24) .no=some (c_iahead.wc E_iahead,[4]):=by kernel_rfl
theorem ok_iahead:p_iahead.Ok PG 115:=mkOk (env_nil PG) k_iahead (by kernel_rfl)
theorem e_iahead (n) (a0) (a1):f_iahead n (a0,a1) =
 Option.bind (bif decide (a0.1<a1.1) then
 some true
 else bif decide (a0.1=a1.1) then
 some (decide (a0.2<a1.2))
 else some false:Option (Bool)) fun x0=>
 some (x0,()):=by kernel_rfl
def c_iedgesOk:TC:=
 (.seq (.rg [o1 4 (.lit [.b] [.bool false])])
 (.seq (.join [] 8589934576 (some [⟨4,[.b],false⟩]) (.seq (.rg [oc 7 1,
 o1 8 (.len 7),
 o1 9 (kL 0)])
 (.block 0 (.loop [⟨9,[.i .i64],false⟩] 8589934192
 (.seq (.rg [o1 10 (.data (.bin .lss) [.t 9,.t 8])])
 (.seq (.cond (.t 10)
 .skip
 (.exit 0))
 (.seq (.join [] 4294965360 (some [⟨4,[.b],false⟩]) (.block 1 (.seq (.rg [oc 11 9,
 o1 12 (.index 7 (.t 9)),
 o1 13 (.load 7 [(0,2)] 0 (.t 12) 2 false),
 o5 (.a (.c [.i .i64,.i .i64] [kV 0,kV 0])) 6 1000000001,
 oc 5 11,
 o4 1 [6] (.store 6 [] 0 .nil (.t 13))])
 (.seq (.join [⟨31,[.b],false⟩] 4294950912 none (.rg [oc 14 0,
 o1 15 (.load 6 [] 0 .nil 2 false),
 o3 16 113 [.t 14,.t 15],
 o1 17 (.data .not [.t 16]),
 oc 18 17,
 o2 19 (.copy 5) 4 false,
 o2 20 (.data (.bin .gtr) [.t 19,kD 0]) 4 false,
 o2 21 (.copy 20) 4 false,
 o2 22 (.copy 1) 7 true,
 o2 23 (.copy 5) 7 true,
 o2 24 (.data (.bin .sub) [.t 23,kD 1]) 7 true,
 o2 25 (.index 22 (.t 24)) 7 true,
 o2 26 (.load 22 [(0,2)] 0 (.t 25) 2 false) 7 true,
 o2 27 (.load 6 [] 0 .nil 2 false) 7 true,
 ⟨false,[],[],.call 1 115 [.t 26,.t 27] .no,[28],(some 28),some (7,true)⟩,
 o2 29 (.data .not [.t 28]) 7 true,
 ⟨false,[],[],.pick 21 (.t 29) (.c (.bool false)),[30],(some 30),some (4,false)⟩,
 o7 18 (.c (.bool true)) (.t 30) 31]))
 (.cond (.t 31)
 (.seq (.rg [o1 4 (.lit [.b] [.bool false])])
 .ret)
 .skip)))))
 (.rg [o1 32 (.data (.bin .add) [.t 9,kD 1]),
 oc 9 32]))))))))
 (.seq (.rg [oc 33 1,
 o1 34 (.len 33),
 o1 35 (.data (.bin .leq) [.t 34,kD 66]),
 oc 4 35])
 .ret)))
def s_iedgesOk:Sig:=⟨[.rd false [.d],.rd false Ct8],(.one false [.d])⟩
def E_iedgesOk:TEnv:=envOf [(113,p_iEdgeOk),(115,p_iahead)]
def f_iedgesOk (n:Nat):Int × (List (Int × Int))->Option ((Bool) × Unit):=runFn n E_iedgesOk c_iedgesOk [[.i .i64],[.sl [.i .i64,.i .i64]]] [.b] [] [4] .no
def g_iedgesOk:=f_iedgesOk BIG
def p_iedgesOk:TSp:=⟨s_iedgesOk,[[.i .i64],[.sl [.i .i64,.i .i64]]],[.b],[],Ou.j .no,g_iedgesOk⟩
theorem k_iedgesOk:chkW PG E_iedgesOk 101 s_iedgesOk (c_iedgesOk.ht 36) .no=some (c_iedgesOk.wc E_iedgesOk,[4]):=by kernel_rfl
theorem ok_iedgesOk:p_iedgesOk.Ok PG 101:=mkOk (env_cons ok_iEdgeOk (env_cons ok_iahead (env_nil PG))) k_iedgesOk (by kernel_rfl)
theorem e_iedgesOk (n) (a0) (a1):f_iedgesOk n (a0,a1) =
 Option.bind (loopT n (X:=Int) (B:=(Unit) ⊕ (Bool)) (fun self1 x0=>
  bif decide (x0<(a1.length:Int)) then
   Option.bind (bnd a1.length x0 fun n2=>
    Option.bind a1[n2]? fun y3=>
    Option.bind (Option.bind (g_iEdgeOk (a0,y3)) fun r4=>
     bif !r4.1 then
      some true
     else bif decide ((0:Int)<x0) then
      bnd a1.length (IntKind.wrap .i64 (x0-(1:Int))) fun n5=>
      Option.bind a1[n5]? fun y6=>
      Option.bind (g_iahead (y6,y3)) fun r7=>
      some !r7.1
     else some false:Option (Bool)) fun x8=>
    bif x8 then
     some (Sum.inr false)
    else some (Sum.inl ()):Option ((Unit) ⊕ (Bool))) fun y=>match y with
   | .inl x9=>
    self1 (IntKind.wrap .i64 (x0+(1:Int)))
   | .inr x9=>
    some (Sum.inr x9)
  else some (Sum.inl ())) (0:Int):Option ((Unit) ⊕ (Bool))) fun y=>match y with
 | .inl x10=>
  some (decide ((a1.length:Int)<=(66:Int)),())
 | .inr x10=>
  some (x10,()):=by kernel_rfl
def c_iownOk:TC:=
 (.seq (.rg [o1 1 (.a (.t 0)),
 o1 2 (.lit [.b] [.bool false])])
 (.seq (.seq (.join [⟨20,[.b],false⟩] 2097024 none (.rg [oi 7,
 o1 8 (.load 1 [] 1 (.t 7) 1 false),
 o1 9 (.len 8),
 oi 10,
 o1 11 (.load 1 [] 0 (.t 10) 1 false),
 o1 12 (.data (.bin .neq) [.t 9,.t 11]),
 oc 13 12,
 o2 14 (.idx .nil) 6 false,
 o2 15 (.load 1 [] 0 (.t 14) 1 false) 6 false,
 o2 16 (.idx .nil) 6 false,
 o2 17 (.load 1 [] 2 (.t 16) 1 false) 6 false,
 ⟨false,[],[],.call 1 101 [.t 15,.t 17] .no,[18],(some 18),some (6,false)⟩,
 o2 19 (.data .not [.t 18]) 6 false,
 o7 13 (.c (.bool true)) (.t 19) 20]))
 (.cond (.t 20)
 (.seq (.rg [o1 2 (.lit [.b] [.bool false])])
 .ret)
 .skip))
 (.seq (.join [] 34357641236 (some [⟨2,[.b],false⟩]) (.seq (.rg [oi 21,
 o1 22 (.load 1 [] 1 (.t 21) 1 false),
 o1 23 (.len 22),
 o1 24 (kL 0)])
 (.block 0 (.loop [⟨24,[.i .i64],false⟩] 34342961172
 (.seq (.rg [o1 25 (.data (.bin .lss) [.t 24,.t 23])])
 (.seq (.cond (.t 25)
 .skip
 (.exit 0))
 (.seq (.block 1 (.seq (.rg [o1 26 (.index 22 (.t 24)),
 o1 27 (.load 22 [(0,1)] 0 (.t 26) 1 false),
 oc 4 27])
 (.seq (.rg [oc 28 4,
 oi 29,
 o1 30 (.load 1 [] 3 (.t 29) 1 false),
 o1 31 (.len 30),
 o3 32 63 [.t 28,kO 1,.t 31],
 o1 33 (.data .not [.t 32])])
 (.cond (.t 33)
 (.seq (.rg [o1 2 (.lit [.b] [.bool false])])
 .ret)
 .skip))))
 (.rg [o1 34 (.data (.bin .add) [.t 24,kD 1]),
 oc 24 34]))))))))
 (.seq (.join [] 72057559678189636 (some [⟨2,[.b],false⟩]) (.seq (.rg [oi 35,
 o1 36 (.load 1 [] 2 (.t 35) 1 false),
 o1 37 (.len 36),
 o1 38 (kL 0)])
 (.block 2 (.loop [⟨38,[.i .i64],false⟩] 72057319160021060
 (.seq (.rg [o1 39 (.data (.bin .lss) [.t 38,.t 37])])
 (.seq (.cond (.t 39)
 .skip
 (.exit 2))
 (.seq (.block 3 (.seq (.rg [o1 40 (.index 36 (.t 38)),
 o1 41 (.load 36 [(0,2)] 0 (.t 40) 2 false),
 o5 (.a (.c [.i .i64,.i .i64] [kV 0,kV 0])) 6 1000000001,
 o4 1 [6] (.store 6 [] 0 .nil (.t 41))])
 (.seq (.rg [oi 42,
 o1 43 (.load 1 [] 1 (.t 42) 1 false),
 oi 44,
 o1 45 (.load 6 [] 0 (.t 44) 1 false),
 o1 46 (.index 43 (.t 45)),
 o1 47 (.load 43 [(0,1)] 0 (.t 46) 1 false),
 oi 48,
 o1 49 (.load 1 [] 1 (.t 48) 1 false),
 oi 50,
 o1 51 (.load 6 [] 1 (.t 50) 1 false),
 o1 52 (.index 49 (.t 51)),
 o1 53 (.load 49 [(0,1)] 0 (.t 52) 1 false),
 o1 54 (.data (.bin .eql) [.t 47,.t 53])])
 (.cond (.t 54)
 (.seq (.rg [o1 2 (.lit [.b] [.bool false])])
 .ret)
 .skip))))
 (.rg [o1 55 (.data (.bin .add) [.t 38,kD 1]),
 oc 38 55]))))))))
 (.seq (.rg [o1 2 (.lit [.b] [.bool true])])
 .ret)))))
def s_iownOk:Sig:=⟨[.rd true Ct1],(.one false [.d])⟩
def E_iownOk:TEnv:=envOf [(101,p_iedgesOk),(63,p_iin)]
def f_iownOk (n:Nat):(Int × List (Int) × List (Int × Int) × List (List (Int)) × List (Int) × Int × Int × Int × Int × Int × Int × Int × List (Int × Int) × Int × List (Int × Int × Int × Int × Int × Int))->Option ((Bool) × Unit):=runFn n E_iownOk c_iownOk [Ty2] [.b] [] [2] .no
def g_iownOk:=f_iownOk BIG
def p_iownOk:TSp:=⟨s_iownOk,[Ty2],[.b],[],Ou.j .no,g_iownOk⟩
theorem k_iownOk:chkW PG E_iownOk 94 s_iownOk (c_iownOk.ht 56) .no=some (c_iownOk.wc E_iownOk,[2]):=by kernel_rfl
theorem ok_iownOk:p_iownOk.Ok PG 94:=mkOk (env_cons ok_iedgesOk (env_cons ok_iin (env_nil PG))) k_iownOk (by kernel_rfl)
theorem e_iownOk (n) (a0):f_iownOk n a0 =
 Option.bind (bif !decide ((a0.2.1.length:Int)=a0.1) then
  some true
  else Option.bind (g_iedgesOk (a0.1,a0.2.2.1)) fun r0=>
  some !r0.1:Option (Bool)) fun x1=>
 bif x1 then
  some (false,())
 else Option.bind (loopT n (X:=Int) (B:=(Unit) ⊕ (Bool)) (fun self3 x2=>
  bif decide (x2<(a0.2.1.length:Int)) then
   bnd a0.2.1.length x2 fun n4=>
   Option.bind a0.2.1[n4]? fun y5=>
   Option.bind (g_iin (y5,(1:Int),(a0.2.2.2.1.length:Int))) fun r6=>
   bif !r6.1 then
    some (Sum.inr false)
   else self3 (IntKind.wrap .i64 (x2+(1:Int)))
  else some (Sum.inl ())) (0:Int):Option ((Unit) ⊕ (Bool))) fun y=>match y with
 | .inl x7=>
  Option.bind (loopT n (X:=Int) (B:=(Unit) ⊕ (Bool)) (fun self9 x8=>
   bif decide (x8<(a0.2.2.1.length:Int)) then
    bnd a0.2.2.1.length x8 fun n10=>
    Option.bind a0.2.2.1[n10]? fun y11=>
    bnd a0.2.1.length y11.1 fun n12=>
    Option.bind a0.2.1[n12]? fun y13=>
    bnd a0.2.1.length y11.2 fun n14=>
    Option.bind a0.2.1[n14]? fun y15=>
    bif decide (y13=y15) then
     some (Sum.inr false)
    else self9 (IntKind.wrap .i64 (x8+(1:Int)))
   else some (Sum.inl ())) (0:Int):Option ((Unit) ⊕ (Bool))) fun y=>match y with
  | .inl x16=>
   some (true,())
  | .inr x16=>
   some (x16,())
 | .inr x7=>
  some (x7,()):=by kernel_rfl
def c_isaidAt:TC:=
 (.seq (.rg [o1 4 (kL 0)])
 (.seq (.join [] 1048560 (some [⟨4,[.i .i64],false⟩]) (.seq (.rg [oc 7 0,
 o1 8 (.len 7),
 o1 9 (kL 0)])
 (.block 0 (.loop [⟨9,[.i .i64],false⟩] 1048176
 (.seq (.rg [o1 10 (.data (.bin .lss) [.t 9,.t 8])])
 (.seq (.cond (.t 10)
 .skip
 (.exit 0))
 (.seq (.block 1 (.seq (.rg [oc 11 9,
 o1 12 (.index 7 (.t 9)),
 o1 13 (.load 7 [(0,6)] 0 (.t 12) 6 false),
 o5 (.a (.c Ty8 [kV 0,kV 0,kV 0,kV 0,kV 0,kV 0])) 6 1000000001,
 oc 5 11,
 o4 1 [6] (.store 6 [] 0 .nil (.t 13))])
 (.seq (.rg [oi 14,
 o1 15 (.load 6 [] 0 (.t 14) 1 false),
 oc 16 1,
 o1 17 (.data (.bin .eql) [.t 15,.t 16])])
 (.cond (.t 17)
 (.seq (.rg [oc 18 5,
 oc 4 18])
 .ret)
 .skip))))
 (.rg [o1 19 (.data (.bin .add) [.t 9,kD 1]),
 oc 9 19]))))))))
 (.seq (.rg [o1 4 (kL (-1))])
 .ret)))
def s_isaidAt:Sig:=⟨[.rd false Ct6,.rd false [.d]],(.one false [.d])⟩
def E_isaidAt:TEnv:=envOf []
def f_isaidAt (n:Nat):(List (Int × Int × Int × Int × Int × Int)) × Int->Option ((Int) × Unit):=runFn n E_isaidAt c_isaidAt [Ty7,[.i .i64]] [.i .i64] [] [4] .no
def g_isaidAt:=f_isaidAt BIG
def p_isaidAt:TSp:=⟨s_isaidAt,[Ty7,[.i .i64]],[.i .i64],[],Ou.j .no,g_isaidAt⟩
theorem k_isaidAt:chkW PG E_isaidAt 67 s_isaidAt (c_isaidAt.ht 20) .no=some (c_isaidAt.wc E_isaidAt,[4]):=by kernel_rfl
theorem ok_isaidAt:p_isaidAt.Ok PG 67:=mkOk (env_nil PG) k_isaidAt (by kernel_rfl)
theorem e_isaidAt (n) (a0) (a1):f_isaidAt n (a0,a1) =
 Option.bind (loopT n (X:=Int) (B:=(Unit) ⊕ (Int)) (fun self1 x0=>
  bif decide (x0<(a0.length:Int)) then
   bnd a0.length x0 fun n2=>
   Option.bind a0[n2]? fun y3=>
   bif decide (y3.1=a1) then
    some (Sum.inr x0)
   else self1 (IntKind.wrap .i64 (x0+(1:Int)))
  else some (Sum.inl ())) (0:Int):Option ((Unit) ⊕ (Int))) fun y=>match y with
 | .inl x4=>
  some ((-1:Int),())
 | .inr x4=>
  some (x4,()):=by kernel_rfl
def c_isaidOk:TC:=
 (.seq (.rg [o1 2 (.lit [.b] [.bool false])])
 (.seq (.join [] 17179869180 (some [⟨2,[.b],false⟩]) (.seq (.rg [oc 5 0,
 o1 6 (.len 5),
 o1 7 (kL 0)])
 (.block 0 (.loop [⟨7,[.i .i64],false⟩] 17179869084
 (.seq (.rg [o1 8 (.data (.bin .lss) [.t 7,.t 6])])
 (.seq (.cond (.t 8)
 .skip
 (.exit 0))
 (.seq (.join [] 8589934108 (some [⟨2,[.b],false⟩]) (.block 1 (.seq (.rg [oc 9 7,
 o1 10 (.index 5 (.t 7)),
 o1 11 (.load 5 [(0,6)] 0 (.t 10) 6 false),
 o5 (.a (.c Ty8 [kV 0,kV 0,kV 0,kV 0,kV 0,kV 0])) 4 1000000001,
 oc 3 9,
 o4 1 [4] (.store 4 [] 0 .nil (.t 11))])
 (.seq (.join [⟨32,[.b],false⟩] 8589930496 none (.rg [oi 12,
 o1 13 (.load 4 [] 0 (.t 12) 1 false),
 oi 14,
 o1 15 (.idx (.t 14)),
 o1 16 (.load 4 [] 1 (.t 15) 1 false),
 o1 17 (.data (.bin .neq) [.t 13,.t 16]),
 oc 18 17,
 o2 19 (.idx .nil) 6 false,
 o2 20 (.load 4 [] 5 (.t 19) 1 false) 6 false,
 ⟨false,[],[],.call 1 63 [.t 20,kO 1,kO 3] .no,[21],(some 21),some (6,false)⟩,
 o2 22 (.data .not [.t 21]) 6 false,
 o7 18 (.c (.bool true)) (.t 22) 23,
 oc 24 23,
 o2 25 (.copy 0) 12 false,
 o2 26 (.copy 3) 12 false,
 o2 27 (.res 25 none (some (.t 26))) 12 false,
 o2 28 (.idx .nil) 12 false,
 o2 29 (.load 4 [] 0 (.t 28) 1 false) 12 false,
 ⟨false,[],[],.call 1 67 [.t 27,.t 29] .no,[30],(some 30),some (12,false)⟩,
 o2 31 (.data (.bin .geq) [.t 30,kD 0]) 12 false,
 o7 24 (.c (.bool true)) (.t 31) 32]))
 (.cond (.t 32)
 (.seq (.rg [o1 2 (.lit [.b] [.bool false])])
 .ret)
 .skip)))))
 (.rg [o1 33 (.data (.bin .add) [.t 7,kD 1]),
 oc 7 33]))))))))
 (.seq (.rg [oc 34 0,
 o1 35 (.len 34),
 o1 36 (.data (.bin .leq) [.t 35,kD 80]),
 oc 2 36])
 .ret)))
def s_isaidOk:Sig:=⟨[.rd false Ct6],(.one false [.d])⟩
def E_isaidOk:TEnv:=envOf [(63,p_iin),(67,p_isaidAt)]
def f_isaidOk (n:Nat):(List (Int × Int × Int × Int × Int × Int))->Option ((Bool) × Unit):=runFn n E_isaidOk c_isaidOk [Ty7] [.b] [] [2] .no
def g_isaidOk:=f_isaidOk BIG
def p_isaidOk:TSp:=⟨s_isaidOk,[Ty7],[.b],[],Ou.j .no,g_isaidOk⟩
theorem k_isaidOk:chkW PG E_isaidOk 95 s_isaidOk (c_isaidOk.ht 37) .no=some (c_isaidOk.wc E_isaidOk,[2]):=by kernel_rfl
theorem ok_isaidOk:p_isaidOk.Ok PG 95:=mkOk (env_cons ok_iin (env_cons ok_isaidAt (env_nil PG))) k_isaidOk (by kernel_rfl)
theorem e_isaidOk (n) (a0):f_isaidOk n a0 =
 Option.bind (loopT n (X:=Int) (B:=(Unit) ⊕ (Bool)) (fun self1 x0=>
  bif decide (x0<(a0.length:Int)) then
   Option.bind (bnd a0.length x0 fun n2=>
    Option.bind a0[n2]? fun y3=>
    Option.bind (bif !decide (y3.1=y3.2.1) then
     some true
     else Option.bind (g_iin (y3.2.2.2.2.2,(1:Int),(3:Int))) fun r4=>
     bif !r4.1 then
      some true
     else bif decide (0<=x0) then
      bif decide (0<=(Int.toNat x0)/\(Int.toNat x0)<=a0.length) then
       Option.bind (g_isaidAt (List.take ((Int.toNat x0)-0) (List.drop 0 a0),y3.1)) fun r5=>
       some (decide ((0:Int)<=r5.1))
      else none
     else none:Option (Bool)) fun x6=>
    bif x6 then
     some (Sum.inr false)
    else some (Sum.inl ()):Option ((Unit) ⊕ (Bool))) fun y=>match y with
   | .inl x7=>
    self1 (IntKind.wrap .i64 (x0+(1:Int)))
   | .inr x7=>
    some (Sum.inr x7)
  else some (Sum.inl ())) (0:Int):Option ((Unit) ⊕ (Bool))) fun y=>match y with
 | .inl x8=>
  some (decide ((a0.length:Int)<=(80:Int)),())
 | .inr x8=>
  some (x8,()):=by kernel_rfl
def c_inoTask:TC:=
 (.seq (.rg [o1 1 (.a (.t 0)),
 o1 2 (.lit [.b] [.bool false])])
 (.seq (.rg [oi 4,
 o1 5 (.load 1 [] 5 (.t 4) 4 false),
 o5 (.a (.c Ty10 [kV 0,kV 0,.slice none 0 0,kV 0])) 3 1000000001,
 o4 1 [3] (.store 3 [] 0 .nil (.t 5))])
 (.seq (.join [⟨2,[.b],false⟩] 68719476676 none (.rg [oi 6,
 o1 7 (.load 1 [] 0 (.t 6) 4 false),
 o1 8 (.build Ty11 []),
 o1 9 (.eqA [.i,.i,.i,.i] (.t 7) (.t 8) false),
 oc 10 9,
 o2 11 (.idx .nil) 4 true,
 o2 12 (.load 1 [] 4 (.t 11) 1 false) 4 true,
 o2 13 (.data (.bin .eql) [.t 12,kD 0]) 4 true,
 o7 10 (.t 13) (.c (.bool false)) 14,
 oc 15 14,
 o2 16 (.idx .nil) 9 true,
 o2 17 (.load 3 [] 0 (.t 16) 1 false) 9 true,
 o2 18 (.data (.bin .eql) [.t 17,kD 0]) 9 true,
 o7 15 (.t 18) (.c (.bool false)) 19,
 oc 20 19,
 o2 21 (.idx .nil) 14 true,
 o2 22 (.load 3 [] 1 (.t 21) 1 false) 14 true,
 o2 23 (.data (.bin .eql) [.t 22,kD 0]) 14 true,
 o7 20 (.t 23) (.c (.bool false)) 24,
 oc 25 24,
 o2 26 (.idx .nil) 19 true,
 o2 27 (.load 3 [] 2 (.t 26) 1 false) 19 true,
 o2 28 (.len 27) 19 true,
 o2 29 (.data (.bin .eql) [.t 28,kD 0]) 19 true,
 o7 25 (.t 29) (.c (.bool false)) 30,
 oc 31 30,
 o2 32 (.idx .nil) 25 true,
 o2 33 (.load 3 [] 3 (.t 32) 1 false) 25 true,
 o2 34 (.data (.bin .eql) [.t 33,kD 0]) 25 true,
 o7 31 (.t 34) (.c (.bool false)) 35,
 oc 2 35]))
 .ret)))
def s_inoTask:Sig:=⟨[.rd true Ct5],(.one false [.d])⟩
def E_inoTask:TEnv:=envOf []
def f_inoTask (n:Nat):(Int × Int × Int × Int × Int × Int × Int × List (Int × Int) × Int)->Option ((Bool) × Unit):=runFn n E_inoTask c_inoTask [Ty5] [.b] [] [2] .no
def g_inoTask:=f_inoTask BIG
def p_inoTask:TSp:=⟨s_inoTask,[Ty5],[.b],[],Ou.j .no,g_inoTask⟩
theorem k_inoTask:chkW PG E_inoTask 110 s_inoTask (c_inoTask.ht 36) .no=some (c_inoTask.wc E_inoTask,[2]):=by kernel_rfl
theorem ok_inoTask:p_inoTask.Ok PG 110:=mkOk (env_nil PG) k_inoTask (by kernel_rfl)
theorem e_inoTask (n) (a0):f_inoTask n a0 =
 Option.bind (bif (decide (a0.1=(0:Int))&&(decide (a0.2.1=(0:Int))&&(decide (a0.2.2.1=(0:Int))&&(decide (a0.2.2.2.1=(0:Int))&&true)))) then
 bif decide (a0.2.2.2.2.1=(0:Int)) then
 bif decide (a0.2.2.2.2.2.1=(0:Int)) then
 bif decide (a0.2.2.2.2.2.2.1=(0:Int)) then
 bif decide ((a0.2.2.2.2.2.2.2.1.length:Int)=(0:Int)) then
 some (decide (a0.2.2.2.2.2.2.2.2=(0:Int)))
 else some false
 else some false
 else some false
 else some false
 else some false:Option (Bool)) fun x0=>
 some (x0,()):=by kernel_rfl
def c_ibadAsk:TC:=
 (.seq (.rg [o1 2 (.a (.t 0)),
 o1 3 (.a (.t 1)),
 o1 4 (.lit [.b] [.bool false])])
 (.seq (.rg [oi 7,
 o1 8 (.load 2 [] 0 (.t 7) 1 false),
 o1 9 (.data (.bin .sub) [.t 8,kD 1]),
 oc 5 9])
 (.seq (.rg [o1 6 (kL 0)])
 (.seq (.join [⟨6,[.i .i64],false⟩,⟨5,[.i .i64],false⟩] 64608 none (.seq (.rg [oi 10,
 o1 11 (.load 3 [] 1 (.t 10) 1 false),
 o1 12 (.data (.bin .eql) [.t 11,kD 4])])
 (.cond (.t 12)
 (.rg [oi 13,
 o1 14 (.load 2 [] 3 (.t 13) 1 false),
 o1 15 (.len 14),
 o1 6 (kL 1),
 oc 5 15])
 .skip)))
 (.seq (.seq (.join [⟨36,[.b],false⟩] 137438887936 none (.rg [oi 16,
 o1 17 (.load 3 [] 1 (.t 16) 1 false),
 o3 18 63 [.t 17,kO 1,kO 4],
 o1 19 (.data .not [.t 18]),
 oc 20 19,
 o2 21 (.idx .nil) 4 false,
 o2 22 (.load 3 [] 2 (.t 21) 1 false) 4 false,
 o2 23 (.idx .nil) 4 false,
 o2 24 (.load 2 [] 0 (.t 23) 1 false) 4 false,
 o2 25 (.data (.bin .sub) [.t 24,kD 1]) 4 false,
 ⟨false,[],[],.call 1 63 [.t 22,kO 0,.t 25] .no,[26],(some 26),some (4,false)⟩,
 o2 27 (.data .not [.t 26]) 4 false,
 o7 20 (.c (.bool true)) (.t 27) 28,
 oc 29 28,
 o2 30 (.idx .nil) 13 false,
 o2 31 (.load 3 [] 3 (.t 30) 1 false) 13 false,
 o2 32 (.copy 6) 13 false,
 o2 33 (.copy 5) 13 false,
 ⟨false,[],[],.call 1 63 [.t 31,.t 32,.t 33] .no,[34],(some 34),some (13,false)⟩,
 o2 35 (.data .not [.t 34]) 13 false,
 o7 29 (.c (.bool true)) (.t 35) 36]))
 (.cond (.t 36)
 (.seq (.rg [o1 4 (.lit [.b] [.bool true])])
 .ret)
 .skip))
 (.seq (.join [⟨4,[.b],false⟩] 4503462188417040 none (.rg [oi 37,
 o1 38 (.load 3 [] 2 (.t 37) 1 false),
 oi 39,
 o1 40 (.load 3 [] 3 (.t 39) 1 false),
 o1 41 (.data (.bin .eql) [.t 38,.t 40]),
 oc 42 41,
 o2 43 (.idx .nil) 5 true,
 o2 44 (.load 3 [] 1 (.t 43) 1 false) 5 true,
 o2 45 (.data (.bin .eql) [.t 44,kD 1]) 5 true,
 o2 46 (.copy 45) 5 true,
 o2 47 (.idx .nil) 9 false,
 o2 48 (.load 3 [] 1 (.t 47) 1 false) 9 false,
 o2 49 (.data (.bin .eql) [.t 48,kD 2]) 9 false,
 ⟨false,[],[],.pick 46 (.c (.bool true)) (.t 49),[50],(some 50),some (5,true)⟩,
 o7 42 (.t 50) (.c (.bool false)) 51,
 oc 4 51]))
 .ret))))))
def s_ibadAsk:Sig:=⟨[.rd true Ct1,.rd true [.d,.d,.d,.d]],(.one false [.d])⟩
def E_ibadAsk:TEnv:=envOf [(63,p_iin)]
def f_ibadAsk (n:Nat):(Int × List (Int) × List (Int × Int) × List (List (Int)) × List (Int) × Int × Int × Int × Int × Int × Int × Int × List (Int × Int) × Int × List (Int × Int × Int × Int × Int × Int)) × (Int × Int × Int × Int)->Option ((Bool) × Unit):=runFn n E_ibadAsk c_ibadAsk [Ty2,Ty11] [.b] [] [4] .no
def g_ibadAsk:=f_ibadAsk BIG
def p_ibadAsk:TSp:=⟨s_ibadAsk,[Ty2,Ty11],[.b],[],Ou.j .no,g_ibadAsk⟩
theorem k_ibadAsk:chkW PG E_ibadAsk 97 s_ibadAsk (c_ibadAsk.ht 52) .no=some (c_ibadAsk.wc E_ibadAsk,[4]):=by kernel_rfl
theorem ok_ibadAsk:p_ibadAsk.Ok PG 97:=mkOk (env_cons ok_iin (env_nil PG)) k_ibadAsk (by kernel_rfl)
theorem e_ibadAsk (n) (a0) (a1):f_ibadAsk n (a0,a1) =
 Option.bind (bif decide (a1.2.1=(4:Int)) then
 some ((1:Int),(a0.2.2.2.1.length:Int))
 else some ((0:Int),IntKind.wrap .i64 (a0.1-(1:Int))):Option (Int × Int)) fun x0=>
 Option.bind (Option.bind (g_iin (a1.2.1,(1:Int),(4:Int))) fun r1=>
 bif !r1.1 then
 some true
 else Option.bind (g_iin (a1.2.2.1,(0:Int),IntKind.wrap .i64 (a0.1-(1:Int)))) fun r2=>
 bif !r2.1 then
 some true
 else Option.bind (g_iin (a1.2.2.2,x0.1,x0.2)) fun r3=>
 some !r3.1:Option (Bool)) fun x4=>
 bif x4 then
 some (true,())
 else Option.bind (bif decide (a1.2.2.1=a1.2.2.2) then
 bif decide (a1.2.1=(1:Int)) then
 some true
 else some (decide (a1.2.1=(2:Int)))
 else some false:Option (Bool)) fun x5=>
 some (x5,()):=by kernel_rfl
def c_iOrderOk:TC:=
 (.seq (.rg [o1 3 (.a (.t 1)),
 o1 4 (.lit [.b] [.bool false])])
 (.seq (.seq (.join [⟨30,[.b],false⟩] 2147483616 none (.rg [oc 5 0,
 o3 6 63 [.t 5,kO 1,kO 12],
 o1 7 (.data .not [.t 6]),
 oc 8 7,
 o2 9 (.idx .nil) 3 false,
 o2 10 (.load 3 [] 0 (.t 9) 1 false) 3 false,
 ⟨false,[],[],.call 1 63 [.t 10,kO 1,kO 100000] .no,[11],(some 11),some (3,false)⟩,
 o2 12 (.data .not [.t 11]) 3 false,
 o7 8 (.c (.bool true)) (.t 12) 13,
 oc 14 13,
 o2 15 (.copy 0) 9 false,
 o2 16 (.idx .nil) 9 false,
 o2 17 (.load 3 [] 2 (.t 16) 1 false) 9 false,
 ⟨false,[],[],.call 1 101 [.t 15,.t 17] .no,[18],(some 18),some (9,false)⟩,
 o2 19 (.data .not [.t 18]) 9 false,
 o7 14 (.c (.bool true)) (.t 19) 20,
 oc 21 20,
 o2 22 (.idx .nil) 16 false,
 o2 23 (.load 3 [] 3 (.t 22) 1 false) 16 false,
 o2 24 (.data (.bin .neq) [.t 23,kD 0]) 16 false,
 o2 25 (.copy 24) 16 false,
 o2 26 (.idx .nil) 20 true,
 o2 27 (.load 3 [] 1 (.t 26) 1 false) 20 true,
 o2 28 (.data (.bin .neq) [.t 27,kD 3]) 20 true,
 ⟨false,[],[],.pick 25 (.t 28) (.c (.bool false)),[29],(some 29),some (16,false)⟩,
 o7 21 (.c (.bool true)) (.t 29) 30]))
 (.cond (.t 30)
 (.seq (.rg [o1 4 (.lit [.b] [.bool false])])
 .ret)
 .skip))
 (.seq (.join [] 576460750155939856 (some [⟨4,[.b],false⟩]) (.seq (.rg [oi 31,
 o1 32 (.load 3 [] 1 (.t 31) 1 false)])
 (.block 0 (.seq (.join [⟨33,[.b],false⟩] 60129542144 none (.seq (.rg [o1 34 (.data (.bin .eql) [.t 32,kD 1]),
 oc 33 34])
 (.cond (.t 33)
 .skip
 (.rg [o1 35 (.data (.bin .eql) [.t 32,kD 2]),
 oc 33 35]))))
 (.cond (.t 33)
 (.seq (.rg [oi 36,
 o1 37 (.load 3 [] 2 (.t 36) 1 false),
 o1 38 (.len 37),
 o1 39 (.data (.bin .eql) [.t 38,kD 1]),
 oc 4 39])
 .ret)
 (.seq (.rg [o1 41 (.data (.bin .eql) [.t 32,kD 3]),
 oc 40 41])
 (.cond (.t 40)
 (.seq (.join [⟨4,[.b],false⟩] 9002801208229904 none (.rg [oi 42,
 o1 43 (.load 3 [] 2 (.t 42) 1 false),
 o1 44 (.len 43),
 o1 45 (.data (.bin .eql) [.t 44,kD 0]),
 oc 46 45,
 o2 47 (.idx .nil) 4 true,
 o2 48 (.load 3 [] 3 (.t 47) 1 false) 4 true,
 o2 49 (.copy 0) 4 true,
 o2 50 (.data (.bin .sub) [.t 49,kD 1]) 4 true,
 ⟨false,[],[],.call 1 63 [.t 48,kO 0,.t 50] .no,[51],(some 51),some (4,true)⟩,
 o7 46 (.t 51) (.c (.bool false)) 52,
 oc 4 52]))
 .ret)
 (.seq (.rg [o1 54 (.data (.bin .eql) [.t 32,kD 4]),
 oc 53 54])
 (.cond (.t 53)
 (.seq (.rg [oi 55,
 o1 56 (.load 3 [] 2 (.t 55) 1 false),
 o1 57 (.len 56),
 o1 58 (.data (.bin .gtr) [.t 57,kD 0]),
 oc 4 58])
 .ret)
 .skip)))))))))
 (.seq (.rg [o1 4 (.lit [.b] [.bool false])])
 .ret))))
def s_iOrderOk:Sig:=⟨[.rd false [.d],.rd true Ct7],(.one false [.d])⟩
def E_iOrderOk:TEnv:=envOf [(63,p_iin),(101,p_iedgesOk)]
def f_iOrderOk (n:Nat):Int × (Int × Int × List (Int × Int) × Int)->Option ((Bool) × Unit):=runFn n E_iOrderOk c_iOrderOk [[.i .i64],Ty10] [.b] [] [4] .no
def g_iOrderOk:=f_iOrderOk BIG
def p_iOrderOk:TSp:=⟨s_iOrderOk,[[.i .i64],Ty10],[.b],[],Ou.j .no,g_iOrderOk⟩
theorem k_iOrderOk:chkW PG E_iOrderOk 111 s_iOrderOk (c_iOrderOk.ht 59) .no=some (c_iOrderOk.wc E_iOrderOk,[4]):=by kernel_rfl
theorem ok_iOrderOk:p_iOrderOk.Ok PG 111:=mkOk (env_cons ok_iin (env_cons ok_iedgesOk (env_nil PG))) k_iOrderOk (by kernel_rfl)
theorem e_iOrderOk (n) (a0) (a1):f_iOrderOk n (a0,a1) =
 Option.bind (Option.bind (g_iin (a0,(1:Int),(12:Int))) fun r0=>
  bif !r0.1 then
   some true
  else Option.bind (g_iin (a1.1,(1:Int),(100000:Int))) fun r1=>
  bif !r1.1 then
   some true
  else Option.bind (g_iedgesOk (a0,a1.2.2.1)) fun r2=>
  bif !r2.1 then
   some true
  else bif !decide (a1.2.2.2=(0:Int)) then
   some (!decide (a1.2.1=(3:Int)))
  else some false:Option (Bool)) fun x3=>
 bif x3 then
  some (false,())
 else Option.bind (Option.bind (bif decide (a1.2.1=(1:Int)) then
   some true
  else some (decide (a1.2.1=(2:Int))):Option (Bool)) fun x4=>
  bif x4 then
   some (Sum.inr (decide ((a1.2.2.1.length:Int)=(1:Int))))
  else bif decide (a1.2.1=(3:Int)) then
   Option.bind (bif decide ((a1.2.2.1.length:Int)=(0:Int)) then
    Option.bind (g_iin (a1.2.2.2,(0:Int),IntKind.wrap .i64 (a0-(1:Int)))) fun r5=>
    some r5.1
    else some false:Option (Bool)) fun x6=>
   some (Sum.inr x6)
  else bif decide (a1.2.1=(4:Int)) then
   some (Sum.inr (decide ((0:Int)<(a1.2.2.1.length:Int))))
  else some (Sum.inl ()):Option ((Unit) ⊕ (Bool))) fun y=>match y with
 | .inl x7=>
  some (false,())
 | .inr x7=>
  some (x7,()):=by kernel_rfl
def c_itaskOk:TC:=
 (.seq (.rg [o1 1 (.a (.t 0)),
 o1 2 (.lit [.b] [.bool false])])
 (.seq (.rg [oi 5,
 o1 6 (.load 1 [] 5 (.t 5) 9 false),
 o5 (.a (.c Ty5 [kV 0,kV 0,kV 0,kV 0,kV 0,kV 0,kV 0,.slice none 0 0,kV 0])) 3 1000000001,
 o4 1 [3] (.store 3 [] 0 .nil (.t 6))])
 (.seq (.seq (.rg [o1 7 (.load 3 [] 0 .nil 9 false),
 o3 8 110 [.t 7]])
 (.cond (.t 8)
 (.seq (.rg [o1 2 (.lit [.b] [.bool true])])
 .ret)
 .skip))
 (.seq (.rg [oi 9,
 o1 10 (.load 3 [] 0 (.t 9) 4 false),
 o5 (.a (.c Ty11 [kV 0,kV 0,kV 0,kV 0])) 4 1000000001,
 o4 1 [4] (.store 4 [] 0 .nil (.t 10))])
 (.seq (.seq (.join [⟨24,[.b],false⟩] 33552384 none (.rg [oi 11,
 o1 12 (.load 4 [] 0 (.t 11) 1 false),
 o3 13 63 [.t 12,kO 1,kO 100000],
 o1 14 (.data .not [.t 13]),
 oc 15 14,
 o2 16 (.idx .nil) 4 false,
 o2 17 (.load 4 [] 1 (.t 16) 1 false) 4 false,
 o2 18 (.data (.bin .eql) [.t 17,kD 3]) 4 false,
 o7 15 (.c (.bool true)) (.t 18) 19,
 oc 20 19,
 o2 21 (.load 1 [] 0 .nil 15 false) 9 false,
 o2 22 (.load 4 [] 0 .nil 4 false) 9 false,
 ⟨false,[],[],.call 1 97 [.t 21,.t 22] .no,[23],(some 23),some (9,false)⟩,
 o7 20 (.c (.bool true)) (.t 23) 24]))
 (.cond (.t 24)
 (.seq (.rg [o1 2 (.lit [.b] [.bool false])])
 .ret)
 .skip))
 (.seq (.join [⟨2,[.b],false⟩] 1152921504573292548 none (.rg [oi 25,
 o1 26 (.load 3 [] 4 (.t 25) 1 false),
 oi 27,
 o1 28 (.load 1 [] 3 (.t 27) 1 false),
 o1 29 (.len 28),
 o3 30 63 [.t 26,kO 1,.t 29],
 oc 31 30,
 o2 32 (.idx .nil) 6 true,
 o2 33 (.load 1 [] 0 (.t 32) 1 false) 6 true,
 o2 34 (.idx .nil) 6 true,
 o2 35 (.load 3 [] 5 (.t 34) 4 false) 6 true,
 ⟨false,[],[],.call 1 111 [.t 33,.t 35] .no,[36],(some 36),some (6,true)⟩,
 o7 31 (.t 36) (.c (.bool false)) 37,
 oc 38 37,
 o2 39 (.idx .nil) 13 true,
 o2 40 (.idx (.t 39)) 13 true,
 o2 41 (.load 3 [] 5 (.t 40) 1 false) 13 true,
 o2 42 (.idx .nil) 13 true,
 o2 43 (.load 1 [] 4 (.t 42) 1 false) 13 true,
 o2 44 (.idx .nil) 13 true,
 o2 45 (.load 3 [] 4 (.t 44) 1 false) 13 true,
 o2 46 (.data (.bin .sub) [.t 45,kD 1]) 13 true,
 o2 47 (.index 43 (.t 46)) 13 true,
 o2 48 (.load 43 [(0,1)] 0 (.t 47) 1 false) 13 true,
 o2 49 (.data (.bin .add) [.t 48,kD 1]) 13 true,
 o2 50 (.data (.bin .eql) [.t 41,.t 49]) 13 true,
 o7 38 (.t 50) (.c (.bool false)) 51,
 oc 52 51,
 o2 53 (.idx .nil) 27 true,
 o2 54 (.load 1 [] 14 (.t 53) 1 false) 27 true,
 o2 55 (.idx .nil) 27 true,
 o2 56 (.load 4 [] 0 (.t 55) 1 false) 27 true,
 ⟨false,[],[],.call 1 67 [.t 54,.t 56] .no,[57],(some 57),some (27,true)⟩,
 o2 58 (.data (.bin .lss) [.t 57,kD 0]) 27 true,
 o7 52 (.t 58) (.c (.bool false)) 59,
 oc 2 59]))
 .ret))))))
def s_itaskOk:Sig:=⟨[.rd true Ct1],(.one false [.d])⟩
def E_itaskOk:TEnv:=envOf [(110,p_inoTask),(63,p_iin),(97,p_ibadAsk),(111,p_iOrderOk),(67,p_isaidAt)]
def f_itaskOk (n:Nat):(Int × List (Int) × List (Int × Int) × List (List (Int)) × List (Int) × Int × Int × Int × Int × Int × Int × Int × List (Int × Int) × Int × List (Int × Int × Int × Int × Int × Int))->Option ((Bool) × Unit):=runFn n E_itaskOk c_itaskOk [Ty2] [.b] [] [2] .no
def g_itaskOk:=f_itaskOk BIG
def p_itaskOk:TSp:=⟨s_itaskOk,[Ty2],[.b],[],Ou.j .no,g_itaskOk⟩
theorem k_itaskOk:chkW PG E_itaskOk 96 s_itaskOk (c_itaskOk.ht 60) .no=some (c_itaskOk.wc E_itaskOk,[2]):=by kernel_rfl
theorem ok_itaskOk:p_itaskOk.Ok PG 96:=mkOk (env_cons ok_inoTask (env_cons ok_iin (env_cons ok_ibadAsk (env_cons ok_iOrderOk (env_cons ok_isaidAt (env_nil PG)))))) k_itaskOk (by kernel_rfl)
theorem e_itaskOk (n) (a0):f_itaskOk n a0 =
 Option.bind (g_inoTask (a0.2.2.2.2.2.1,a0.2.2.2.2.2.2.1,a0.2.2.2.2.2.2.2.1,a0.2.2.2.2.2.2.2.2.1,a0.2.2.2.2.2.2.2.2.2.1,a0.2.2.2.2.2.2.2.2.2.2.1,a0.2.2.2.2.2.2.2.2.2.2.2.1,a0.2.2.2.2.2.2.2.2.2.2.2.2.1,a0.2.2.2.2.2.2.2.2.2.2.2.2.2.1)) fun r0=>
 bif r0.1 then
 some (true,())
 else Option.bind (Option.bind (g_iin (a0.2.2.2.2.2.1,(1:Int),(100000:Int))) fun r1=>
 bif !r1.1 then
 some true
 else bif decide (a0.2.2.2.2.2.2.1=(3:Int)) then
 some true
 else Option.bind (g_ibadAsk (a0,(a0.2.2.2.2.2.1,a0.2.2.2.2.2.2.1,a0.2.2.2.2.2.2.2.1,a0.2.2.2.2.2.2.2.2.1))) fun r2=>
 some r2.1:Option (Bool)) fun x3=>
 bif x3 then
 some (false,())
 else Option.bind (Option.bind (g_iin (a0.2.2.2.2.2.2.2.2.2.1,(1:Int),(a0.2.2.2.1.length:Int))) fun r4=>
 bif r4.1 then
 Option.bind (g_iOrderOk (a0.1,(a0.2.2.2.2.2.2.2.2.2.2.1,a0.2.2.2.2.2.2.2.2.2.2.2.1,a0.2.2.2.2.2.2.2.2.2.2.2.2.1,a0.2.2.2.2.2.2.2.2.2.2.2.2.2.1))) fun r5=>
 bif r5.1 then
 bnd a0.2.2.2.2.1.length (IntKind.wrap .i64 (a0.2.2.2.2.2.2.2.2.2.1-(1:Int))) fun n6=>
 Option.bind a0.2.2.2.2.1[n6]? fun y7=>
 bif decide (a0.2.2.2.2.2.2.2.2.2.2.1=(IntKind.wrap .i64 (y7+(1:Int)))) then
 Option.bind (g_isaidAt (a0.2.2.2.2.2.2.2.2.2.2.2.2.2.2,a0.2.2.2.2.2.1)) fun r8=>
 some (decide (r8.1<(0:Int)))
 else some false
 else some false
 else some false:Option (Bool)) fun x9=>
 some (x9,()):=by kernel_rfl
def c_iHeadOk:TC:=
 (.seq (.rg [o1 1 (.a (.t 0)),
 o1 2 (.lit [.b] [.bool false])])
 (.seq (.seq (.join [⟨24,[.b],false⟩] 33554400 none (.rg [oi 5,
 o1 6 (.load 1 [] 0 (.t 5) 1 false),
 o3 7 63 [.t 6,kO 1,kO 12],
 o1 8 (.data .not [.t 7]),
 oc 9 8,
 o2 10 (.idx .nil) 4 false,
 o2 11 (.load 1 [] 3 (.t 10) 1 false) 4 false,
 o2 12 (.len 11) 4 false,
 ⟨false,[],[],.call 1 63 [.t 12,kO 1,kO 3] .no,[13],(some 13),some (4,false)⟩,
 o2 14 (.data .not [.t 13]) 4 false,
 o7 9 (.c (.bool true)) (.t 14) 15,
 oc 16 15,
 o2 17 (.idx .nil) 11 false,
 o2 18 (.load 1 [] 4 (.t 17) 1 false) 11 false,
 o2 19 (.len 18) 11 false,
 o2 20 (.idx .nil) 11 false,
 o2 21 (.load 1 [] 3 (.t 20) 1 false) 11 false,
 o2 22 (.len 21) 11 false,
 o2 23 (.data (.bin .neq) [.t 19,.t 22]) 11 false,
 o7 16 (.c (.bool true)) (.t 23) 24]))
 (.cond (.t 24)
 (.seq (.rg [o1 2 (.lit [.b] [.bool false])])
 .ret)
 .skip))
 (.seq (.join [] 281474943156252 (some [⟨2,[.b],false⟩]) (.seq (.rg [oi 25,
 o1 26 (.load 1 [] 3 (.t 25) 1 false),
 o1 27 (.len 26),
 o1 28 (kL 0)])
 (.block 0 (.loop [⟨28,[.i .i64],false⟩] 281474708275228
 (.seq (.rg [o1 29 (.data (.bin .lss) [.t 28,.t 27])])
 (.seq (.cond (.t 29)
 .skip
 (.exit 0))
 (.seq (.join [] 140736414613532 (some [⟨2,[.b],false⟩]) (.block 1 (.seq (.rg [oc 30 28,
 o1 31 (.index 26 (.t 28)),
 o1 32 (.load 26 [(0,1)] 0 (.t 31) 1 false),
 oc 3 30,
 oc 4 32])
 (.seq (.join [⟨46,[.b],false⟩] 140728898420736 none (.rg [oi 33,
 o1 34 (.load 1 [] 0 (.t 33) 1 false),
 oc 35 4,
 o3 36 93 [.t 34,.t 35],
 o1 37 (.data .not [.t 36]),
 oc 38 37,
 o2 39 (.idx .nil) 5 false,
 o2 40 (.load 1 [] 4 (.t 39) 1 false) 5 false,
 o2 41 (.copy 3) 5 false,
 o2 42 (.index 40 (.t 41)) 5 false,
 o2 43 (.load 40 [(0,1)] 0 (.t 42) 1 false) 5 false,
 ⟨false,[],[],.call 1 63 [.t 43,kO 0,kO 99991] .no,[44],(some 44),some (5,false)⟩,
 o2 45 (.data .not [.t 44]) 5 false,
 o7 38 (.c (.bool true)) (.t 45) 46]))
 (.cond (.t 46)
 (.seq (.rg [o1 2 (.lit [.b] [.bool false])])
 .ret)
 .skip)))))
 (.rg [o1 47 (.data (.bin .add) [.t 28,kD 1]),
 oc 28 47]))))))))
 (.seq (.join [⟨2,[.b],false⟩] 576179277326712836 none (.rg [o1 48 (.load 1 [] 0 .nil 15 false),
 o3 49 94 [.t 48],
 oc 50 49,
 o2 51 (.idx .nil) 2 true,
 o2 52 (.load 1 [] 14 (.t 51) 1 false) 2 true,
 ⟨false,[],[],.call 1 95 [.t 52] .no,[53],(some 53),some (2,true)⟩,
 o7 50 (.t 53) (.c (.bool false)) 54,
 oc 55 54,
 o2 56 (.load 1 [] 0 .nil 15 false) 7 true,
 ⟨false,[],[],.call 1 96 [.t 56] .no,[57],(some 57),some (7,true)⟩,
 o7 55 (.t 57) (.c (.bool false)) 58,
 oc 2 58]))
 .ret))))
def s_iHeadOk:Sig:=⟨[.rd true Ct1],(.one false [.d])⟩
def E_iHeadOk:TEnv:=envOf [(63,p_iin),(93,p_ilabelsOk),(94,p_iownOk),(95,p_isaidOk),(96,p_itaskOk)]
def f_iHeadOk (n:Nat):(Int × List (Int) × List (Int × Int) × List (List (Int)) × List (Int) × Int × Int × Int × Int × Int × Int × Int × List (Int × Int) × Int × List (Int × Int × Int × Int × Int × Int))->Option ((Bool) × Unit):=runFn n E_iHeadOk c_iHeadOk [Ty2] [.b] [] [2] .no
def g_iHeadOk:=f_iHeadOk BIG
def p_iHeadOk:TSp:=⟨s_iHeadOk,[Ty2],[.b],[],Ou.j .no,g_iHeadOk⟩
theorem k_iHeadOk:chkW PG E_iHeadOk 66 s_iHeadOk (c_iHeadOk.ht 59) .no=some (c_iHeadOk.wc E_iHeadOk,[2]):=by kernel_rfl
theorem ok_iHeadOk:p_iHeadOk.Ok PG 66:=mkOk (env_cons ok_iin (env_cons ok_ilabelsOk (env_cons ok_iownOk (env_cons ok_isaidOk (env_cons ok_itaskOk (env_nil PG)))))) k_iHeadOk (by kernel_rfl)
theorem e_iHeadOk (n) (a0):f_iHeadOk n a0 =
 Option.bind (Option.bind (g_iin (a0.1,(1:Int),(12:Int))) fun r0=>
  bif !r0.1 then
   some true
  else Option.bind (g_iin ((a0.2.2.2.1.length:Int),(1:Int),(3:Int))) fun r1=>
  bif !r1.1 then
   some true
  else some (!decide ((a0.2.2.2.2.1.length:Int)=(a0.2.2.2.1.length:Int))):Option (Bool)) fun x2=>
 bif x2 then
  some (false,())
 else Option.bind (loopT n (X:=Int) (B:=(Unit) ⊕ (Bool)) (fun self4 x3=>
  bif decide (x3<(a0.2.2.2.1.length:Int)) then
   Option.bind (bnd a0.2.2.2.1.length x3 fun n5=>
    Option.bind a0.2.2.2.1[n5]? fun y6=>
    Option.bind (Option.bind (g_ilabelsOk (a0.1,y6)) fun r7=>
     bif !r7.1 then
      some true
     else bnd a0.2.2.2.2.1.length x3 fun n8=>
     Option.bind a0.2.2.2.2.1[n8]? fun y9=>
     Option.bind (g_iin (y9,(0:Int),(99991:Int))) fun r10=>
     some !r10.1:Option (Bool)) fun x11=>
    bif x11 then
     some (Sum.inr false)
    else some (Sum.inl ()):Option ((Unit) ⊕ (Bool))) fun y=>match y with
   | .inl x12=>
    self4 (IntKind.wrap .i64 (x3+(1:Int)))
   | .inr x12=>
    some (Sum.inr x12)
  else some (Sum.inl ())) (0:Int):Option ((Unit) ⊕ (Bool))) fun y=>match y with
 | .inl x13=>
  Option.bind (Option.bind (g_iownOk a0) fun r14=>
   bif r14.1 then
    Option.bind (g_isaidOk a0.2.2.2.2.2.2.2.2.2.2.2.2.2.2) fun r15=>
    bif r15.1 then
     Option.bind (g_itaskOk a0) fun r16=>
     some r16.1
    else some false
   else some false:Option (Bool)) fun x17=>
  some (x17,())
 | .inr x13=>
  some (x13,()):=by kernel_rfl
def c_iBusy:TC:=
 (.seq (.rg [o1 1 (.a (.t 0)),
 o1 2 (.lit [.b] [.bool false])])
 (.seq (.rg [oi 3,
 o1 4 (.idx (.t 3)),
 o1 5 (.load 1 [] 9 (.t 4) 1 false),
 o1 6 (.data (.bin .neq) [.t 5,kD 0]),
 oc 2 6])
 .ret))
def s_iBusy:Sig:=⟨[.rd true Ct1],(.one false [.d])⟩
def E_iBusy:TEnv:=envOf []
def f_iBusy (n:Nat):(Int × List (Int) × List (Int × Int) × List (List (Int)) × List (Int) × Int × Int × Int × Int × Int × Int × Int × List (Int × Int) × Int × List (Int × Int × Int × Int × Int × Int))->Option ((Bool) × Unit):=runFn n E_iBusy c_iBusy [Ty2] [.b] [] [2] .no
def g_iBusy:=f_iBusy BIG
def p_iBusy:TSp:=⟨s_iBusy,[Ty2],[.b],[],Ou.j .no,g_iBusy⟩
theorem k_iBusy:chkW PG E_iBusy 68 s_iBusy (c_iBusy.ht 7) .no=some (c_iBusy.wc E_iBusy,[2]):=by kernel_rfl
theorem ok_iBusy:p_iBusy.Ok PG 68:=mkOk (env_nil PG) k_iBusy (by kernel_rfl)
theorem e_iBusy (n) (a0):f_iBusy n a0 =
 some (!decide (a0.2.2.2.2.2.2.2.2.2.1=(0:Int)),()):=by kernel_rfl
def c_iHead_say:TC:=
 (.seq (.rg [o1 4 (.a (.t 1)),
 o1 6 (kL 0)])
 (.seq (.rg [o1 7 (.p0),
 o1 8 (.p0),
 o1 9 (.same 8),
 o1 10 (.idx (.t 9)),
 o1 11 (.load 0 [] 14 (.t 10) 1 true),
 oi 12,
 o1 13 (.load 4 [] 0 (.t 12) 1 false),
 o1 14 (.load 4 [] 0 .nil 4 false),
 oc 15 2,
 o1 16 (.build Ty8 [(0,.t 13),(1,.t 14),(5,.t 15)]),
 o1 17 (.sli Ty8 [.t 16]),
 ⟨false,[11],[],.det 2 (.app (some 11) 17),[18,11,11,0],(some 18),none⟩,
 o1 19 (.same 7),
 o1 20 (.idx (.t 19)),
 o4 2 [0,18,11] (.store 0 [] 14 (.t 20) (.t 18))])
 (.seq (.rg [o1 6 (kL 1)])
 .ret)))
def s_iHead_say:Sig:=⟨[.mp Ct1,.rd true [.d,.d,.d,.d],.rd false [.d]],(.one false [.d])⟩
def E_iHead_say:TEnv:=envOf []
def f_iHead_say (n:Nat):(Int × List (Int) × List (Int × Int) × List (List (Int)) × List (Int) × Int × Int × Int × Int × Int × Int × Int × List (Int × Int) × Int × List (Int × Int × Int × Int × Int × Int)) × (Int × Int × Int × Int) × Int->Option ((Int) × Int × List (Int) × List (Int × Int) × List (List (Int)) × List (Int) × Int × Int × Int × Int × Int × Int × Int × List (Int × Int) × Int × List (Int × Int × Int × Int × Int × Int)):=runFn n E_iHead_say c_iHead_say [Ty2,Ty11,[.i .i64]] [.i .i64] Ty2 [6] (.mp 0)
def g_iHead_say:=f_iHead_say BIG
def p_iHead_say:TSp:=⟨s_iHead_say,[Ty2,Ty11,[.i .i64]],[.i .i64],Ty2,Ou.j (.mp 0),g_iHead_say⟩
theorem k_iHead_say:chkW PG E_iHead_say 72 s_iHead_say (c_iHead_say.ht 21) (.mp 0)=some (c_iHead_say.wc E_iHead_say,[6]):=by kernel_rfl
theorem ok_iHead_say:p_iHead_say.Ok PG 72:=mkOk (env_nil PG) k_iHead_say (by kernel_rfl)
theorem e_iHead_say (n) (a0) (a1) (a2):f_iHead_say n (a0,a1,a2) =
 bif decide (a0.2.2.2.2.2.2.2.2.2.2.2.2.2.2.length+([(a1.1,a1.1,a1.2.1,a1.2.2.1,a1.2.2.2,a2)]).length<=4294967296) then
 some ((1:Int),(a0.1,a0.2.1,a0.2.2.1,a0.2.2.2.1,a0.2.2.2.2.1,a0.2.2.2.2.2.1,a0.2.2.2.2.2.2.1,a0.2.2.2.2.2.2.2.1,a0.2.2.2.2.2.2.2.2.1,a0.2.2.2.2.2.2.2.2.2.1,a0.2.2.2.2.2.2.2.2.2.2.1,a0.2.2.2.2.2.2.2.2.2.2.2.1,a0.2.2.2.2.2.2.2.2.2.2.2.2.1,a0.2.2.2.2.2.2.2.2.2.2.2.2.2.1,a0.2.2.2.2.2.2.2.2.2.2.2.2.2.2++([(a1.1,a1.1,a1.2.1,a1.2.2.1,a1.2.2.2,a2)])))
 else none:=by kernel_rfl
def c_iunion:TC:=
 (.seq (.rg [o1 6 (.lit [.b] [.bool false])])
 (.seq (.rg [o6 10 0,
 oc 11 1,
 o1 12 (.index 10 (.t 11)),
 o1 13 (.load 0 [(0,1)] 0 (.t 12) 1 false),
 o6 14 0,
 oc 15 2,
 o1 16 (.index 14 (.t 15)),
 o1 17 (.load 0 [(0,1)] 0 (.t 16) 1 false),
 oc 7 13,
 oc 8 17])
 (.seq (.seq (.rg [oc 18 7,
 oc 19 8,
 o1 20 (.data (.bin .eql) [.t 18,.t 19])])
 (.cond (.t 20)
 (.seq (.rg [o1 6 (.lit [.b] [.bool false])])
 .ret)
 .skip))
 (.seq (.join [⟨0,[.sl [.i .i64]],false⟩] 2199021158913 none (.seq (.rg [o6 21 0,
 o1 22 (.len 21),
 o1 23 (kL 0)])
 (.block 0 (.loop [⟨0,[.sl [.i .i64]],false⟩,⟨23,[.i .i64],false⟩] 2199016982017
 (.seq (.rg [o1 24 (.data (.bin .lss) [.t 23,.t 22])])
 (.seq (.cond (.t 24)
 .skip
 (.exit 0))
 (.seq (.join [⟨0,[.sl [.i .i64]],false⟩] 1099478073857 none (.block 1 (.seq (.rg [oc 25 23,
 oc 9 25])
 (.seq (.rg [o6 26 0,
 oc 27 9,
 o1 28 (.index 26 (.t 27)),
 o1 29 (.load 0 [(0,1)] 0 (.t 28) 1 false),
 oc 30 7,
 oc 31 8,
 o1 32 (.data .max [.t 30,.t 31]),
 o1 33 (.data (.bin .eql) [.t 29,.t 32])])
 (.cond (.t 33)
 (.rg [o6 34 0,
 oc 35 9,
 oc 36 7,
 oc 37 8,
 o1 38 (.data .min [.t 36,.t 37]),
 o1 39 (.index 34 (.t 35)),
 o4 1 [0,26,34] (.store 0 [(0,1)] 0 (.t 39) (.t 38))])
 .skip)))))
 (.rg [o1 40 (.data (.bin .add) [.t 23,kD 1]),
 oc 23 40]))))))))
 (.seq (.rg [o1 6 (.lit [.b] [.bool true])])
 .ret)))))
def s_iunion:Sig:=⟨[.mt false Ct9,.rd false [.d],.rd false [.d]],(.one false [.d])⟩
def E_iunion:TEnv:=envOf []
def f_iunion (n:Nat):List (Int) × Int × Int->Option ((Bool) × List (Int)):=runFn n E_iunion c_iunion [[.sl [.i .i64]],[.i .i64],[.i .i64]] [.b] [.sl [.i .i64]] [6] (.mt 0 0 0)
def g_iunion:=f_iunion BIG
def p_iunion:TSp:=⟨s_iunion,[[.sl [.i .i64]],[.i .i64],[.i .i64]],[.b],[.sl [.i .i64]],Ou.j (.mt 0 0 0),g_iunion⟩
theorem k_iunion:chkW PG E_iunion 112 s_iunion (c_iunion.ht 41) (.mt 0 0 0)=some (c_iunion.wc E_iunion,[6]):=by kernel_rfl
theorem ok_iunion:p_iunion.Ok PG 112:=mkOk (env_nil PG) k_iunion (by kernel_rfl)
theorem e_iunion (n) (a0) (a1) (a2):f_iunion n (a0,a1,a2) =
 bnd a0.length a1 fun n0=>
 Option.bind a0[n0]? fun y1=>
 bnd a0.length a2 fun n2=>
 Option.bind a0[n2]? fun y3=>
 bif decide (y1=y3) then
 some (false,a0)
 else Option.bind (loopT n (X:=(List (Int)) × Int) (B:=(List (Int))) (fun self5 x4=>
 bif decide (x4.2<(a0.length:Int)) then
 Option.bind (bnd x4.1.length x4.2 fun n6=>
 Option.bind x4.1[n6]? fun y7=>
 bif decide (y7=(if y3 > y1 then y3 else y1)) then
 bnd x4.1.length x4.2 fun n8=>
 Option.bind x4.1[n8]? fun y9=>
 some (x4.1.set n8 (if y3<y1 then y3 else y1))
 else some x4.1:Option ((List (Int)))) fun x10=>
 self5 (x10,IntKind.wrap .i64 (x4.2+(1:Int)))
 else some x4.1) (a0,(0:Int)):Option ((List (Int)))) fun x11=>
 some (true,x11):=by kernel_rfl
def c_iWholeLabels:TC:=
 (.seq (.rg [o1 6 (.lit [.sl [.i .i64]] [.slice none 0 0]),
 o1 7 (.lit [.b] [.bool false])])
 (.seq (.seq (.join [⟨22,[.b],false⟩] 8355840 none (.rg [oc 15 0,
 o3 16 63 [.t 15,kO 1,kO 12],
 o1 17 (.data .not [.t 16]),
 oc 18 17,
 o2 19 (.copy 1) 3 false,
 o2 20 (.len 19) 3 false,
 o2 21 (.data (.bin .gtr) [.t 20,kD 3]) 3 false,
 o7 18 (.c (.bool true)) (.t 21) 22]))
 (.cond (.t 22)
 (.seq (.rg [o1 6 (.lit [.sl [.i .i64]] [.slice none 0 0]),
 o1 7 (.lit [.b] [.bool false])])
 .ret)
 .skip))
 (.seq (.rg [oc 23 0,
 o3 24 64 [.t 23],
 o5 (.copy 24) 8 24])
 (.seq (.join [⟨8,[.sl [.i .i64]],false⟩] 4503599593823680 (some [⟨6,[.sl [.i .i64]],false⟩,⟨7,[.b],false⟩]) (.seq (.rg [oc 25 1,
 o1 26 (.len 25),
 o1 27 (kL 0)])
 (.block 0 (.loop [⟨8,[.sl [.i .i64]],false⟩,⟨27,[.i .i64],false⟩] 4503599493160384
 (.seq (.rg [o1 28 (.data (.bin .lss) [.t 27,.t 26])])
 (.seq (.cond (.t 28)
 .skip
 (.exit 0))
 (.seq (.join [⟨8,[.sl [.i .i64]],false⟩] 2251799276821952 (some [⟨6,[.sl [.i .i64]],false⟩,⟨7,[.b],false⟩]) (.block 1 (.seq (.rg [o1 29 (.index 25 (.t 27)),
 o1 30 (.load 25 [(0,1)] 0 (.t 29) 1 false),
 oc 10 30])
 (.seq (.seq (.rg [oc 31 10,
 o1 32 (.len 31),
 oc 33 0,
 o1 34 (.data (.bin .neq) [.t 32,.t 33])])
 (.cond (.t 34)
 (.seq (.rg [o1 6 (.lit [.sl [.i .i64]] [.slice none 0 0]),
 o1 7 (.lit [.b] [.bool false])])
 .ret)
 .skip))
 (.seq (.rg [oc 35 10,
 o1 36 (.len 35),
 o1 37 (kL 0)])
 (.block 2 (.loop [⟨8,[.sl [.i .i64]],false⟩,⟨37,[.i .i64],false⟩] 2251662374738368
 (.seq (.rg [o1 38 (.data (.bin .lss) [.t 37,.t 36])])
 (.seq (.cond (.t 38)
 .skip
 (.exit 2))
 (.seq (.block 3 (.seq (.rg [oc 39 37,
 o1 40 (.index 35 (.t 37)),
 o1 41 (.load 35 [(0,1)] 0 (.t 40) 1 false),
 oc 11 39,
 oc 12 41])
 (.seq (.seq (.rg [oc 42 12,
 oc 43 11,
 o3 44 63 [.t 42,kO 0,.t 43],
 o1 45 (.data .not [.t 44])])
 (.cond (.t 45)
 (.seq (.rg [o1 6 (.lit [.sl [.i .i64]] [.slice none 0 0]),
 o1 7 (.lit [.b] [.bool false])])
 .ret)
 .skip))
 (.rg [o6 46 8,
 oc 47 12,
 oc 48 11,
 ⟨false,[],[],.call 2 112 [.t 46,.t 47,.t 48] (.mt 8 [] 0 46 0),[49,8,46],(some 49),none⟩]))))
 (.rg [o1 50 (.data (.bin .add) [.t 37,kD 1]),
 oc 37 50])))))))))))
 (.rg [o1 51 (.data (.bin .add) [.t 27,kD 1]),
 oc 27 51]))))))))
 (.seq (.join [⟨8,[.sl [.i .i64]],false⟩] 590291306759078298048 (some [⟨6,[.sl [.i .i64]],false⟩,⟨7,[.b],false⟩]) (.seq (.rg [oc 52 2,
 o1 53 (.len 52),
 o1 54 (kL 0)])
 (.block 4 (.loop [⟨8,[.sl [.i .i64]],false⟩,⟨54,[.i .i64],false⟩] 590277795960196186560
 (.seq (.rg [o1 55 (.data (.bin .lss) [.t 54,.t 53])])
 (.seq (.cond (.t 55)
 .skip
 (.exit 4))
 (.seq (.block 5 (.seq (.rg [o1 56 (.index 52 (.t 54)),
 o1 57 (.load 52 [(0,2)] 0 (.t 56) 2 false),
 o5 (.a (.c [.i .i64,.i .i64] [kV 0,kV 0])) 14 1000000001,
 o4 1 [14] (.store 14 [] 0 .nil (.t 57))])
 (.seq (.seq (.rg [oc 58 0,
 o1 59 (.load 14 [] 0 .nil 2 false),
 o3 60 113 [.t 58,.t 59],
 o1 61 (.data .not [.t 60])])
 (.cond (.t 61)
 (.seq (.rg [o1 6 (.lit [.sl [.i .i64]] [.slice none 0 0]),
 o1 7 (.lit [.b] [.bool false])])
 .ret)
 .skip))
 (.rg [o6 62 8,
 oi 63,
 o1 64 (.load 14 [] 0 (.t 63) 1 false),
 oi 65,
 o1 66 (.load 14 [] 1 (.t 65) 1 false),
 ⟨false,[],[],.call 2 112 [.t 62,.t 64,.t 66] (.mt 8 [] 0 62 0),[67,8,62],(some 67),none⟩]))))
 (.rg [o1 68 (.data (.bin .add) [.t 54,kD 1]),
 oc 54 68]))))))))
 (.seq (.rg [o5 (.copy 8) 69 8,
 o5 (.copy 69) 6 69,
 o1 7 (.lit [.b] [.bool true])])
 .ret))))))
def s_iWholeLabels:Sig:=⟨[.rd false [.d],.rd false [.sl (.own none) Ct9],.rd false Ct8],(.tup [(false,1),(false,1)] [.sl (.own none) [.d],.d])⟩
def E_iWholeLabels:TEnv:=envOf [(63,p_iin),(64,p_ifirst),(112,p_iunion),(113,p_iEdgeOk)]
def f_iWholeLabels (n:Nat):Int × List (List (Int)) × (List (Int × Int))->Option ((List (Int) × Bool) × Unit):=runFn n E_iWholeLabels c_iWholeLabels [[.i .i64],[.sl [.sl [.i .i64]]],[.sl [.i .i64,.i .i64]]] [.sl [.i .i64],.b] [] [6,7] .no
def g_iWholeLabels:=f_iWholeLabels BIG
def p_iWholeLabels:TSp:=⟨s_iWholeLabels,[[.i .i64],[.sl [.sl [.i .i64]]],[.sl [.i .i64,.i .i64]]],[.sl [.i .i64],.b],[],Ou.j .no,g_iWholeLabels⟩
theorem k_iWholeLabels:chkW PG E_iWholeLabels 98 s_iWholeLabels (c_iWholeLabels.ht 70) .no=some (c_iWholeLabels.wc E_iWholeLabels,[6,7]):=by kernel_rfl
theorem ok_iWholeLabels:p_iWholeLabels.Ok PG 98:=mkOk (env_cons ok_iin (env_cons ok_ifirst (env_cons ok_iunion (env_cons ok_iEdgeOk (env_nil PG))))) k_iWholeLabels (by kernel_rfl)
theorem e_iWholeLabels (n) (a0) (a1) (a2):f_iWholeLabels n (a0,a1,a2) =
 Option.bind (Option.bind (g_iin (a0,(1:Int),(12:Int))) fun r0=>
  bif !r0.1 then
   some true
  else some (decide ((3:Int)<(a1.length:Int))):Option (Bool)) fun x1=>
 bif x1 then
  some (([],false),())
 else Option.bind (g_ifirst a0) fun r2=>
 Option.bind (loopT n (X:=(List (Int)) × Int) (B:=((List (Int))) ⊕ ((List (Int)) × Bool)) (fun self4 x3=>
  bif decide (x3.2<(a1.length:Int)) then
   Option.bind (bnd a1.length x3.2 fun n5=>
    Option.bind a1[n5]? fun y6=>
    bif !decide ((y6.length:Int)=a0) then
     some (Sum.inr ([],false))
    else loopT n (X:=(List (Int)) × Int) (B:=((List (Int))) ⊕ ((List (Int)) × Bool)) (fun self8 x7=>
     bif decide (x7.2<(y6.length:Int)) then
      bnd y6.length x7.2 fun n9=>
      Option.bind y6[n9]? fun y10=>
      Option.bind (g_iin (y10,(0:Int),x7.2)) fun r11=>
      bif !r11.1 then
       some (Sum.inr ([],false))
      else Option.bind (g_iunion (x7.1,y10,x7.2)) fun r12=>
      self8 (r12.2,IntKind.wrap .i64 (x7.2+(1:Int)))
     else some (Sum.inl x7.1)) (x3.1,(0:Int)):Option (((List (Int))) ⊕ ((List (Int)) × Bool))) fun y=>match y with
   | .inl x13=>
    self4 (x13,IntKind.wrap .i64 (x3.2+(1:Int)))
   | .inr x13=>
    some (Sum.inr (x13.1,x13.2))
  else some (Sum.inl x3.1)) (r2.1,(0:Int)):Option (((List (Int))) ⊕ ((List (Int)) × Bool))) fun y=>match y with
 | .inl x14=>
  Option.bind (loopT n (X:=(List (Int)) × Int) (B:=((List (Int))) ⊕ ((List (Int)) × Bool)) (fun self16 x15=>
   bif decide (x15.2<(a2.length:Int)) then
    bnd a2.length x15.2 fun n17=>
    Option.bind a2[n17]? fun y18=>
    Option.bind (g_iEdgeOk (a0,y18)) fun r19=>
    bif !r19.1 then
     some (Sum.inr ([],false))
    else Option.bind (g_iunion (x15.1,y18.1,y18.2)) fun r20=>
    self16 (r20.2,IntKind.wrap .i64 (x15.2+(1:Int)))
   else some (Sum.inl x15.1)) (x14,(0:Int)):Option (((List (Int))) ⊕ ((List (Int)) × Bool))) fun y=>match y with
  | .inl x21=>
   some ((x21,true),())
  | .inr x21=>
   some (x21,())
 | .inr x14=>
  some (x14,()):=by kernel_rfl
def c_iyesNo:TC:=
 (.seq (.rg [o1 2 (kL 0)])
 (.seq (.seq (.rg [oc 3 0])
 (.cond (.t 3)
 (.seq (.rg [o1 2 (kL 1)])
 .ret)
 .skip))
 (.seq (.rg [o1 2 (kL 2)])
 .ret)))
def s_iyesNo:Sig:=⟨[.rd false [.d]],(.one false [.d])⟩
def E_iyesNo:TEnv:=envOf []
def f_iyesNo (n:Nat):Bool->Option ((Int) × Unit):=runFn n E_iyesNo c_iyesNo [[.b]] [.i .i64] [] [2] .no
def g_iyesNo:=f_iyesNo BIG
def p_iyesNo:TSp:=⟨s_iyesNo,[[.b]],[.i .i64],[],Ou.j .no,g_iyesNo⟩
theorem k_iyesNo:chkW PG E_iyesNo 73 s_iyesNo (c_iyesNo.ht 4) .no=some (c_iyesNo.wc E_iyesNo,[2]):=by kernel_rfl
theorem ok_iyesNo:p_iyesNo.Ok PG 73:=mkOk (env_nil PG) k_iyesNo (by kernel_rfl)
theorem e_iyesNo (n) (a0):f_iyesNo n a0 =
 bif a0 then
 some ((1:Int),())
 else some ((2:Int),()):=by kernel_rfl
def c_iHead_order:TC:=
 (.seq (.rg [o1 5 (.a (.t 1)),
 o5 (.a (.t 3)) 7 3,
 o1 8 (kL 0)])
 (.seq (.rg [o1 9 (.p0),
 o1 10 (.same 9),
 o1 11 (.idx (.t 10)),
 o1 12 (.load 0 [] 4 (.t 11) 1 true),
 oc 13 2,
 o1 14 (.data (.bin .sub) [.t 13,kD 1]),
 o1 15 (.index 12 (.t 14)),
 o1 16 (.load 0 [(4,1)] 0 (.t 15) 1 false),
 o1 17 (.data (.bin .add) [.t 16,kD 1]),
 oi 18,
 o4 1 [7] (.store 7 [] 0 (.t 18) (.t 17))])
 (.seq (.rg [o1 19 (.p0),
 o1 20 (.load 5 [] 0 .nil 4 false),
 oc 21 2,
 o1 22 (.load 7 [] 0 .nil 4 true),
 ⟨false,[22],[],.det 2 (.build Ty5 [(0,.t 20),(4,.t 21),(5,.t 22)]),[23,22,22,7],(some 23),none⟩,
 o1 24 (.same 19),
 o1 25 (.idx (.t 24)),
 o4 2 [0,23,12,15] (.store 0 [] 5 (.t 25) (.t 23))])
 (.seq (.rg [o1 8 (kL 2)])
 .ret))))
def s_iHead_order:Sig:=⟨[.mp Ct1,.rd true [.d,.d,.d,.d],.rd false [.d],.tk true Ct7],(.one false [.d])⟩
def E_iHead_order:TEnv:=envOf []
def f_iHead_order (n:Nat):(Int × List (Int) × List (Int × Int) × List (List (Int)) × List (Int) × Int × Int × Int × Int × Int × Int × Int × List (Int × Int) × Int × List (Int × Int × Int × Int × Int × Int)) × (Int × Int × Int × Int) × Int × (Int × Int × List (Int × Int) × Int)->Option ((Int) × Int × List (Int) × List (Int × Int) × List (List (Int)) × List (Int) × Int × Int × Int × Int × Int × Int × Int × List (Int × Int) × Int × List (Int × Int × Int × Int × Int × Int)):=runFn n E_iHead_order c_iHead_order [Ty2,Ty11,[.i .i64],Ty10] [.i .i64] Ty2 [8] (.mp 0)
def g_iHead_order:=f_iHead_order BIG
def p_iHead_order:TSp:=⟨s_iHead_order,[Ty2,Ty11,[.i .i64],Ty10],[.i .i64],Ty2,Ou.j (.mp 0),g_iHead_order⟩
theorem k_iHead_order:chkW PG E_iHead_order 99 s_iHead_order (c_iHead_order.ht 26) (.mp 0)=some (c_iHead_order.wc E_iHead_order,[8]):=by kernel_rfl
theorem ok_iHead_order:p_iHead_order.Ok PG 99:=mkOk (env_nil PG) k_iHead_order (by kernel_rfl)
theorem e_iHead_order (n) (a0) (a1) (a2) (a3):f_iHead_order n (a0,a1,a2,a3) =
 bnd a0.2.2.2.2.1.length (IntKind.wrap .i64 (a2-(1:Int))) fun n0=>
 Option.bind a0.2.2.2.2.1[n0]? fun y1=>
 some ((2:Int),(a0.1,a0.2.1,a0.2.2.1,a0.2.2.2.1,a0.2.2.2.2.1,a1.1,a1.2.1,a1.2.2.1,a1.2.2.2,a2,IntKind.wrap .i64 (y1+(1:Int)),a3.2.1,a3.2.2.1,a3.2.2.2,a0.2.2.2.2.2.2.2.2.2.2.2.2.2.2)):=by kernel_rfl
def c_iedgeOf:TC:=
 (.seq (.rg [o1 1 (.a (.t 0)),
 o5 (.a (.c [.i .i64,.i .i64] [kV 0,kV 0])) 2 1000000001])
 (.seq (.rg [oi 3,
 o1 4 (.load 1 [] 2 (.t 3) 1 false),
 oi 5,
 o1 6 (.load 1 [] 3 (.t 5) 1 false),
 o1 7 (.data .min [.t 4,.t 6]),
 oi 8,
 o1 9 (.load 1 [] 2 (.t 8) 1 false),
 oi 10,
 o1 11 (.load 1 [] 3 (.t 10) 1 false),
 o1 12 (.data .max [.t 9,.t 11]),
 o1 13 (.build [.i .i64,.i .i64] [(0,.t 7),(1,.t 12)]),
 o4 1 [2] (.store 2 [] 0 .nil (.t 13))])
 .ret))
def s_iedgeOf:Sig:=⟨[.rd true [.d,.d,.d,.d]],(.one true [.d,.d])⟩
def E_iedgeOf:TEnv:=envOf []
def f_iedgeOf (n:Nat):(Int × Int × Int × Int)->Option ((Int × Int) × Unit):=runFn n E_iedgeOf c_iedgeOf [Ty11] [.i .i64,.i .i64] [] [2] .no
def g_iedgeOf:=f_iedgeOf BIG
def p_iedgeOf:TSp:=⟨s_iedgeOf,[Ty11],[.i .i64,.i .i64],[],Ou.j .no,g_iedgeOf⟩
theorem k_iedgeOf:chkW PG E_iedgeOf 114 s_iedgeOf (c_iedgeOf.ht 14) .no=some (c_iedgeOf.wc E_iedgeOf,[2]):=by kernel_rfl
theorem ok_iedgeOf:p_iedgeOf.Ok PG 114:=mkOk (env_nil PG) k_iedgeOf (by kernel_rfl)
theorem e_iedgeOf (n) (a0):f_iedgeOf n a0 =
 some (((if a0.2.2.2<a0.2.2.1 then a0.2.2.2 else a0.2.2.1),(if a0.2.2.2 > a0.2.2.1 then a0.2.2.2 else a0.2.2.1)),()):=by kernel_rfl
def c_ihasEdge:TC:=
 (.seq (.rg [o1 3 (.a (.t 1)),
 o1 4 (.lit [.b] [.bool false])])
 (.seq (.join [] 131024 (some [⟨4,[.b],false⟩]) (.seq (.rg [oc 7 0,
 o1 8 (.len 7),
 o1 9 (kL 0)])
 (.block 0 (.loop [⟨9,[.i .i64],false⟩] 130640
 (.seq (.rg [o1 10 (.data (.bin .lss) [.t 9,.t 8])])
 (.seq (.cond (.t 10)
 .skip
 (.exit 0))
 (.seq (.block 1 (.seq (.rg [o1 11 (.index 7 (.t 9)),
 o1 12 (.load 7 [(0,2)] 0 (.t 11) 2 false),
 o5 (.a (.c [.i .i64,.i .i64] [kV 0,kV 0])) 6 1000000001,
 o4 1 [6] (.store 6 [] 0 .nil (.t 12))])
 (.seq (.rg [o1 13 (.load 6 [] 0 .nil 2 false),
 o1 14 (.load 3 [] 0 .nil 2 false),
 o1 15 (.eqA [.i,.i] (.t 13) (.t 14) false)])
 (.cond (.t 15)
 (.seq (.rg [o1 4 (.lit [.b] [.bool true])])
 .ret)
 .skip))))
 (.rg [o1 16 (.data (.bin .add) [.t 9,kD 1]),
 oc 9 16]))))))))
 (.seq (.rg [o1 4 (.lit [.b] [.bool false])])
 .ret)))
def s_ihasEdge:Sig:=⟨[.rd false Ct8,.rd true [.d,.d]],(.one false [.d])⟩
def E_ihasEdge:TEnv:=envOf []
def f_ihasEdge (n:Nat):(List (Int × Int)) × (Int × Int)->Option ((Bool) × Unit):=runFn n E_ihasEdge c_ihasEdge [[.sl [.i .i64,.i .i64]],[.i .i64,.i .i64]] [.b] [] [4] .no
def g_ihasEdge:=f_ihasEdge BIG
def p_ihasEdge:TSp:=⟨s_ihasEdge,[[.sl [.i .i64,.i .i64]],[.i .i64,.i .i64]],[.b],[],Ou.j .no,g_ihasEdge⟩
theorem k_ihasEdge:chkW PG E_ihasEdge 102 s_ihasEdge (c_ihasEdge.ht 17) .no=some (c_ihasEdge.wc E_ihasEdge,[4]):=by kernel_rfl
theorem ok_ihasEdge:p_ihasEdge.Ok PG 102:=mkOk (env_nil PG) k_ihasEdge (by kernel_rfl)
theorem e_ihasEdge (n) (a0) (a1):f_ihasEdge n (a0,a1) =
 Option.bind (loopT n (X:=Int) (B:=(Unit) ⊕ (Bool)) (fun self1 x0=>
  bif decide (x0<(a0.length:Int)) then
   bnd a0.length x0 fun n2=>
   Option.bind a0[n2]? fun y3=>
   bif (decide (y3.1=a1.1)&&(decide (y3.2=a1.2)&&true)) then
    some (Sum.inr true)
   else self1 (IntKind.wrap .i64 (x0+(1:Int)))
  else some (Sum.inl ())) (0:Int):Option ((Unit) ⊕ (Bool))) fun y=>match y with
 | .inl x4=>
  some (false,())
 | .inr x4=>
  some (x4,()):=by kernel_rfl
def c_iwithEdge:TC:=
 (.seq (.rg [o1 3 (.a (.t 1)),
 o1 4 (.lit [.sl [.i .i64,.i .i64]] [.slice none 0 0])])
 (.seq (.rg [o1 5 (kL 0)])
 (.seq (.join [⟨5,[.i .i64],false⟩] 1048544 none (.block 0 (.loop [⟨5,[.i .i64],false⟩] 1048544
 (.seq (.seq (.join [⟨17,[.b],false⟩] 262080 none (.rg [oc 6 5,
 oc 7 0,
 o1 8 (.len 7),
 o1 9 (.data (.bin .lss) [.t 6,.t 8]),
 oc 10 9,
 o2 11 (.copy 0) 4 true,
 o2 12 (.copy 5) 4 true,
 o2 13 (.index 11 (.t 12)) 4 true,
 o2 14 (.load 11 [(0,2)] 0 (.t 13) 2 false) 4 true,
 o2 15 (.load 3 [] 0 .nil 2 false) 4 true,
 ⟨false,[],[],.call 1 115 [.t 14,.t 15] .no,[16],(some 16),some (4,true)⟩,
 o7 10 (.t 16) (.c (.bool false)) 17]))
 (.cond (.t 17)
 .skip
 (.exit 0)))
 (.block 1 (.rg [oc 18 5,
 o1 19 (.data (.bin .add) [.t 18,kD 1]),
 oc 5 19]))))))
 (.seq (.rg [oc 20 0,
 oc 21 5,
 o1 22 (.res 20 none (some (.t 21))),
 o1 23 (.app none 22),
 o1 24 (.load 3 [] 0 .nil 2 false),
 o1 25 (.sli [.i .i64,.i .i64] [.t 24]),
 o5 (.app (some 23) 25) 26 23,
 oc 27 0,
 oc 28 5,
 o1 29 (.res 27 (some (.t 28)) none),
 o5 (.app (some 26) 29) 30 26,
 o5 (.copy 30) 4 30])
 .ret))))
def s_iwithEdge:Sig:=⟨[.rd false Ct8,.rd true [.d,.d]],(.one false Ct8)⟩
def E_iwithEdge:TEnv:=envOf [(115,p_iahead)]
def f_iwithEdge (n:Nat):(List (Int × Int)) × (Int × Int)->Option ((List (Int × Int)) × Unit):=runFn n E_iwithEdge c_iwithEdge [[.sl [.i .i64,.i .i64]],[.i .i64,.i .i64]] [.sl [.i .i64,.i .i64]] [] [4] .no
def g_iwithEdge:=f_iwithEdge BIG
def p_iwithEdge:TSp:=⟨s_iwithEdge,[[.sl [.i .i64,.i .i64]],[.i .i64,.i .i64]],[.sl [.i .i64,.i .i64]],[],Ou.j .no,g_iwithEdge⟩
theorem k_iwithEdge:chkW PG E_iwithEdge 103 s_iwithEdge (c_iwithEdge.ht 31) .no=some (c_iwithEdge.wc E_iwithEdge,[4]):=by kernel_rfl
theorem ok_iwithEdge:p_iwithEdge.Ok PG 103:=mkOk (env_cons ok_iahead (env_nil PG)) k_iwithEdge (by kernel_rfl)
theorem e_iwithEdge (n) (a0) (a1):f_iwithEdge n (a0,a1) =
 Option.bind (loopT n (X:=Int) (B:=Int) (fun self1 x0=>
 Option.bind (bif decide (x0<(a0.length:Int)) then
 bnd a0.length x0 fun n2=>
 Option.bind a0[n2]? fun y3=>
 Option.bind (g_iahead (y3,a1)) fun r4=>
 some r4.1
 else some false:Option (Bool)) fun x5=>
 bif x5 then
 self1 (IntKind.wrap .i64 (x0+(1:Int)))
 else some x0) (0:Int):Option (Int)) fun x6=>
 bif decide (0<=x6) then
 bif decide (0<=(Int.toNat x6)/\(Int.toNat x6)<=a0.length) then
 bif decide ((List.take ((Int.toNat x6)-0) (List.drop 0 a0)).length<=4294967296) then
 bif decide ((List.take ((Int.toNat x6)-0) (List.drop 0 a0)).length+[a1].length<=4294967296) then
 bif decide (0<=x6) then
 bif decide ((Int.toNat x6)<=a0.length/\a0.length<=a0.length) then
 bif decide (((List.take ((Int.toNat x6)-0) (List.drop 0 a0))++[a1]).length+(List.take (a0.length-(Int.toNat x6)) (List.drop (Int.toNat x6) a0)).length<=4294967296) then
 some (((List.take ((Int.toNat x6)-0) (List.drop 0 a0))++[a1])++(List.take (a0.length-(Int.toNat x6)) (List.drop (Int.toNat x6) a0)),())
 else none
 else none
 else none
 else none
 else none
 else none
 else none:=by kernel_rfl
def c_iwithoutEdge:TC:=
 (.seq (.rg [o1 3 (.a (.t 1)),
 o1 4 (.lit [.sl [.i .i64,.i .i64]] [.slice none 0 0])])
 (.seq (.rg [o1 5 (.lit [.sl [.i .i64,.i .i64]] [.slice none 0 0])])
 (.seq (.join [⟨5,[.sl [.i .i64,.i .i64]],false⟩] 4194208 none (.seq (.rg [oc 8 0,
 o1 9 (.len 8),
 o1 10 (kL 0)])
 (.block 0 (.loop [⟨5,[.sl [.i .i64,.i .i64]],false⟩,⟨10,[.i .i64],false⟩] 4193440
 (.seq (.rg [o1 11 (.data (.bin .lss) [.t 10,.t 9])])
 (.seq (.cond (.t 11)
 .skip
 (.exit 0))
 (.seq (.join [⟨5,[.sl [.i .i64,.i .i64]],false⟩] 2093216 none (.block 1 (.seq (.rg [o1 12 (.index 8 (.t 10)),
 o1 13 (.load 8 [(0,2)] 0 (.t 12) 2 false),
 o5 (.a (.c [.i .i64,.i .i64] [kV 0,kV 0])) 7 1000000001,
 o4 1 [7] (.store 7 [] 0 .nil (.t 13))])
 (.seq (.rg [o1 14 (.load 7 [] 0 .nil 2 false),
 o1 15 (.load 3 [] 0 .nil 2 false),
 o1 16 (.eqA [.i,.i] (.t 14) (.t 15) true)])
 (.cond (.t 16)
 (.rg [o5 (.copy 5) 17 5,
 o1 18 (.load 7 [] 0 .nil 2 false),
 o1 19 (.sli [.i .i64,.i .i64] [.t 18]),
 o5 (.app (some 17) 19) 20 17,
 o5 (.copy 20) 5 20])
 .skip)))))
 (.rg [o1 21 (.data (.bin .add) [.t 10,kD 1]),
 oc 10 21]))))))))
 (.seq (.rg [o5 (.copy 5) 22 5,
 o5 (.copy 22) 4 22])
 .ret))))
def s_iwithoutEdge:Sig:=⟨[.rd false Ct8,.rd true [.d,.d]],(.one false Ct8)⟩
def E_iwithoutEdge:TEnv:=envOf []
def f_iwithoutEdge (n:Nat):(List (Int × Int)) × (Int × Int)->Option ((List (Int × Int)) × Unit):=runFn n E_iwithoutEdge c_iwithoutEdge [[.sl [.i .i64,.i .i64]],[.i .i64,.i .i64]] [.sl [.i .i64,.i .i64]] [] [4] .no
def g_iwithoutEdge:=f_iwithoutEdge BIG
def p_iwithoutEdge:TSp:=⟨s_iwithoutEdge,[[.sl [.i .i64,.i .i64]],[.i .i64,.i .i64]],[.sl [.i .i64,.i .i64]],[],Ou.j .no,g_iwithoutEdge⟩
theorem k_iwithoutEdge:chkW PG E_iwithoutEdge 105 s_iwithoutEdge (c_iwithoutEdge.ht 23) .no=some (c_iwithoutEdge.wc E_iwithoutEdge,[4]):=by kernel_rfl
theorem ok_iwithoutEdge:p_iwithoutEdge.Ok PG 105:=mkOk (env_nil PG) k_iwithoutEdge (by kernel_rfl)
theorem e_iwithoutEdge (n) (a0) (a1):f_iwithoutEdge n (a0,a1) =
 Option.bind (loopT n (X:=(List (Int × Int)) × Int) (B:=(List (Int × Int))) (fun self1 x0=>
 bif decide (x0.2<(a0.length:Int)) then
 Option.bind (bnd a0.length x0.2 fun n2=>
 Option.bind a0[n2]? fun y3=>
 bif !(decide (y3.1=a1.1)&&(decide (y3.2=a1.2)&&true)) then
 bif decide (x0.1.length+[y3].length<=4294967296) then
 some (x0.1++[y3])
 else none
 else some x0.1:Option ((List (Int × Int)))) fun x4=>
 self1 (x4,IntKind.wrap .i64 (x0.2+(1:Int)))
 else some x0.1) ([],(0:Int)):Option ((List (Int × Int)))) fun x5=>
 some (x5,()):=by kernel_rfl
def c_iHead_edge:TC:=
 (.seq (.rg [o1 3 (.a (.t 1)),
 o1 4 (kL 0)])
 (.seq (.rg [o1 7 (.load 3 [] 0 .nil 4 false),
 o3 8 114 [.t 7],
 o5 (.a (.c [.i .i64,.i .i64] [kV 0,kV 0])) 5 1000000001,
 o4 1 [5] (.store 5 [] 0 .nil (.t 8))])
 (.seq (.rg [o1 9 (.p0),
 o1 10 (.same 9),
 o1 11 (.idx (.t 10)),
 o1 12 (.load 0 [] 2 (.t 11) 1 true),
 o1 13 (.load 5 [] 0 .nil 2 false),
 o3 14 102 [.t 12,.t 13],
 oc 6 14])
 (.seq (.join [⟨0,Ty2,false⟩] 10633823966279326983230456482242727953 (some [⟨4,[.i .i64],false⟩,⟨0,Ty2,false⟩]) (.block 0 (.seq (.join [⟨15,[.b],false⟩] 274877874176 none (.rg [o1 16 (.p0),
 o1 17 (.same 16),
 o1 18 (.idx (.t 17)),
 o1 19 (.load 0 [] 1 (.t 18) 1 true),
 oi 20,
 o1 21 (.load 5 [] 0 (.t 20) 1 false),
 o1 22 (.index 19 (.t 21)),
 o1 23 (.load 0 [(1,1)] 0 (.t 22) 1 false),
 o1 24 (.p0),
 o1 25 (.same 24),
 o1 26 (.idx (.t 25)),
 o1 27 (.load 0 [] 1 (.t 26) 1 true),
 oi 28,
 o1 29 (.load 5 [] 1 (.t 28) 1 false),
 o1 30 (.index 27 (.t 29)),
 o1 31 (.load 0 [(1,1)] 0 (.t 30) 1 false),
 o1 32 (.data (.bin .eql) [.t 23,.t 31]),
 oc 33 32,
 o2 34 (.idx .nil) 17 true,
 o2 35 (.load 3 [] 1 (.t 34) 1 false) 17 true,
 o2 36 (.data (.bin .eql) [.t 35,kD 1]) 17 true,
 o7 33 (.t 36) (.c (.bool false)) 37,
 oc 15 37]))
 (.cond (.t 15)
 (.seq (.rg [o1 38 (.p0),
 ⟨false,[],[1000000002],.det 1 (.load 3 [] 0 .nil 4 false),[39],(some 39),none⟩,
 o1 40 (.p0),
 ⟨false,[],[1000000002],.det 1 (.same 40),[41],(some 41),none⟩,
 ⟨false,[],[1000000002],.det 1 (.idx (.t 41)),[42],(some 42),none⟩,
 ⟨false,[],[1000000002],.det 1 (.load 0 [] 1 (.t 42) 1 true),[43],(some 43),none⟩,
 ⟨false,[],[1000000002],.det 1 (.idx .nil),[44],(some 44),none⟩,
 ⟨false,[],[1000000002],.det 1 (.load 5 [] 0 (.t 44) 1 false),[45],(some 45),none⟩,
 ⟨false,[],[1000000002],.det 1 (.index 43 (.t 45)),[46],(some 46),none⟩,
 ⟨false,[],[1000000002],.det 1 (.load 0 [(1,1)] 0 (.t 46) 1 false),[47],(some 47),none⟩,
 o1 48 (.load 5 [] 0 .nil 2 false),
 o1 49 (.sli [.i .i64,.i .i64] [.t 48]),
 ⟨false,[],[],.det 3 (.build Ty10 [(1,kO 1),(2,.t 49)]),[50,1000000002,49],(some 50),none⟩,
 ⟨false,[],[],.call 3 99 [.t 0,.t 39,.t 47,.t 50] (.mp 0),[51,0,50,12,19,22,27,30,46,43],(some 51),none⟩,
 oc 4 51])
 .ret)
 (.seq (.rg [o1 53 (.p0),
 o1 54 (.same 53),
 o1 55 (.idx (.t 54)),
 o1 56 (.load 0 [] 1 (.t 55) 1 true),
 oi 57,
 o1 58 (.load 5 [] 0 (.t 57) 1 false),
 o1 59 (.index 56 (.t 58)),
 o1 60 (.load 0 [(1,1)] 0 (.t 59) 1 false),
 o1 61 (.p0),
 o1 62 (.same 61),
 o1 63 (.idx (.t 62)),
 o1 64 (.load 0 [] 1 (.t 63) 1 true),
 oi 65,
 o1 66 (.load 5 [] 1 (.t 65) 1 false),
 o1 67 (.index 64 (.t 66)),
 o1 68 (.load 0 [(1,1)] 0 (.t 67) 1 false),
 o1 69 (.data (.bin .eql) [.t 60,.t 68]),
 oc 52 69])
 (.cond (.t 52)
 (.seq (.rg [o1 70 (.p0),
 ⟨false,[],[1000000002],.det 1 (.load 3 [] 0 .nil 4 false),[71],(some 71),none⟩,
 o1 72 (.p0),
 ⟨false,[],[1000000002],.det 1 (.same 72),[73],(some 73),none⟩,
 ⟨false,[],[1000000002],.det 1 (.idx (.t 73)),[74],(some 74),none⟩,
 ⟨false,[],[1000000002],.det 1 (.load 0 [] 1 (.t 74) 1 true),[75],(some 75),none⟩,
 ⟨false,[],[1000000002],.det 1 (.idx .nil),[76],(some 76),none⟩,
 ⟨false,[],[1000000002],.det 1 (.load 5 [] 0 (.t 76) 1 false),[77],(some 77),none⟩,
 ⟨false,[],[1000000002],.det 1 (.index 75 (.t 77)),[78],(some 78),none⟩,
 ⟨false,[],[1000000002],.det 1 (.load 0 [(1,1)] 0 (.t 78) 1 false),[79],(some 79),none⟩,
 o1 80 (.load 5 [] 0 .nil 2 false),
 o1 81 (.sli [.i .i64,.i .i64] [.t 80]),
 ⟨false,[],[],.det 3 (.build Ty10 [(1,kO 2),(2,.t 81)]),[82,1000000002,81],(some 82),none⟩,
 ⟨false,[],[],.call 3 99 [.t 0,.t 71,.t 79,.t 82] (.mp 0),[83,0,82,12,19,22,27,30,56,59,64,67,78,75],(some 83),none⟩,
 oc 4 83])
 .ret)
 (.seq (.join [⟨84,[.b],false⟩] 4932417344027687032801198080 none (.rg [oi 85,
 o1 86 (.load 3 [] 1 (.t 85) 1 false),
 o1 87 (.data (.bin .eql) [.t 86,kD 1]),
 oc 88 87,
 o2 89 (.copy 6) 3 true,
 o2 90 (.data .not [.t 89]) 3 true,
 o7 88 (.t 90) (.c (.bool false)) 91,
 oc 84 91]))
 (.cond (.t 84)
 (.seq (.rg [o1 92 (.p0),
 o1 93 (.p0),
 o1 94 (.same 93),
 o1 95 (.idx (.t 94)),
 o1 96 (.load 0 [] 2 (.t 95) 1 true),
 o1 97 (.load 5 [] 0 .nil 2 false),
 o3 98 103 [.t 96,.t 97],
 o1 99 (.same 92),
 o1 100 (.idx (.t 99)),
 o4 2 [0,98,12,19,22,27,30,56,59,64,67,96] (.store 0 [] 2 (.t 100) (.t 98))])
 (.seq (.rg [o1 101 (.p0),
 o1 102 (.load 3 [] 0 .nil 4 false),
 ⟨false,[],[],.call 2 72 [.t 0,.t 102,kO 1] (.mp 0),[103,0],(some 103),none⟩,
 oc 4 103])
 .ret))
 (.seq (.join [⟨104,[.b],false⟩] 2575866019663762143841300913324032 none (.rg [oi 105,
 o1 106 (.load 3 [] 1 (.t 105) 1 false),
 o1 107 (.data (.bin .eql) [.t 106,kD 2]),
 oc 108 107,
 o2 109 (.copy 6) 3 true,
 o7 108 (.t 109) (.c (.bool false)) 110,
 oc 104 110]))
 (.cond (.t 104)
 (.seq (.rg [o1 111 (.p0),
 o1 112 (.p0),
 o1 113 (.same 112),
 o1 114 (.idx (.t 113)),
 o1 115 (.load 0 [] 2 (.t 114) 1 true),
 o1 116 (.load 5 [] 0 .nil 2 false),
 o3 117 105 [.t 115,.t 116],
 o1 118 (.same 111),
 o1 119 (.idx (.t 118)),
 o4 2 [0,117,12,19,22,27,30,56,59,64,67,115] (.store 0 [] 2 (.t 119) (.t 117))])
 (.seq (.rg [o1 120 (.p0),
 o1 121 (.load 3 [] 0 .nil 4 false),
 ⟨false,[],[],.call 2 72 [.t 0,.t 121,kO 1] (.mp 0),[122,0],(some 122),none⟩,
 oc 4 122])
 .ret))
 .skip))))))))))
 (.seq (.rg [o1 123 (.p0),
 o1 124 (.load 3 [] 0 .nil 4 false),
 ⟨false,[],[],.call 2 72 [.t 0,.t 124,kO 2] (.mp 0),[125,0,12,19,22,27,30,56,59,64,67],(some 125),none⟩,
 oc 4 125])
 .ret)))))
def s_iHead_edge:Sig:=⟨[.mp Ct1,.rd true [.d,.d,.d,.d]],(.one false [.d])⟩
def E_iHead_edge:TEnv:=envOf [(114,p_iedgeOf),(102,p_ihasEdge),(99,p_iHead_order),(103,p_iwithEdge),(72,p_iHead_say),(105,p_iwithoutEdge)]
def f_iHead_edge (n:Nat):(Int × List (Int) × List (Int × Int) × List (List (Int)) × List (Int) × Int × Int × Int × Int × Int × Int × Int × List (Int × Int) × Int × List (Int × Int × Int × Int × Int × Int)) × (Int × Int × Int × Int)->Option ((Int) × Int × List (Int) × List (Int × Int) × List (List (Int)) × List (Int) × Int × Int × Int × Int × Int × Int × Int × List (Int × Int) × Int × List (Int × Int × Int × Int × Int × Int)):=runFn n E_iHead_edge c_iHead_edge [Ty2,Ty11] [.i .i64] Ty2 [4] (.mp 0)
def g_iHead_edge:=f_iHead_edge BIG
def p_iHead_edge:TSp:=⟨s_iHead_edge,[Ty2,Ty11],[.i .i64],Ty2,Ou.j (.mp 0),g_iHead_edge⟩
theorem k_iHead_edge:chkW PG E_iHead_edge 100 s_iHead_edge (c_iHead_edge.ht 126) (.mp 0)=some (c_iHead_edge.wc E_iHead_edge,[4]):=by kernel_rfl
theorem ok_iHead_edge:p_iHead_edge.Ok PG 100:=mkOk (env_cons ok_iedgeOf (env_cons ok_ihasEdge (env_cons ok_iHead_order (env_cons ok_iwithEdge (env_cons ok_iHead_say (env_cons ok_iwithoutEdge (env_nil PG))))))) k_iHead_edge (by kernel_rfl)
theorem e_iHead_edge (n) (a0) (a1):f_iHead_edge n (a0,a1) =
 Option.bind (g_iedgeOf a1) fun r0=>
 Option.bind (g_ihasEdge (a0.2.2.1,r0.1)) fun r1=>
 Option.bind (Option.bind (bnd a0.2.1.length r0.1.1 fun n2=>
  Option.bind a0.2.1[n2]? fun y3=>
  bnd a0.2.1.length r0.1.2 fun n4=>
  Option.bind a0.2.1[n4]? fun y5=>
  bif decide (y3=y5) then
   some (decide (a1.2.1=(1:Int)))
  else some false:Option (Bool)) fun x6=>
  bif x6 then
   bnd a0.2.1.length r0.1.1 fun n7=>
   Option.bind a0.2.1[n7]? fun y8=>
   Option.bind (g_iHead_order (a0,a1,y8,((0:Int),(1:Int),[r0.1],(0:Int)))) fun r9=>
   some (Sum.inr (r9.1,r9.2))
  else bnd a0.2.1.length r0.1.1 fun n10=>
  Option.bind a0.2.1[n10]? fun y11=>
  bnd a0.2.1.length r0.1.2 fun n12=>
  Option.bind a0.2.1[n12]? fun y13=>
  bif decide (y11=y13) then
   bnd a0.2.1.length r0.1.1 fun n14=>
   Option.bind a0.2.1[n14]? fun y15=>
   Option.bind (g_iHead_order (a0,a1,y15,((0:Int),(2:Int),[r0.1],(0:Int)))) fun r16=>
   some (Sum.inr (r16.1,r16.2))
  else Option.bind (bif decide (a1.2.1=(1:Int)) then
   some !r1.1
   else some false:Option (Bool)) fun x17=>
  bif x17 then
   Option.bind (g_iwithEdge (a0.2.2.1,r0.1)) fun r18=>
   Option.bind (g_iHead_say ((a0.1,a0.2.1,r18.1,a0.2.2.2),a1,(1:Int))) fun r19=>
   some (Sum.inr (r19.1,r19.2))
  else Option.bind (bif decide (a1.2.1=(2:Int)) then
   some r1.1
   else some false:Option (Bool)) fun x20=>
  bif x20 then
   Option.bind (g_iwithoutEdge (a0.2.2.1,r0.1)) fun r21=>
   Option.bind (g_iHead_say ((a0.1,a0.2.1,r21.1,a0.2.2.2),a1,(1:Int))) fun r22=>
   some (Sum.inr (r22.1,r22.2))
  else some (Sum.inl a0):Option (((Int × List (Int) × List (Int × Int) × List ((List (Int))) × List (Int) × Int × Int × Int × Int × Int × Int × Int × List (Int × Int) × Int × List (Int × Int × Int × Int × Int × Int))) ⊕ (Int × (Int × List (Int) × List (Int × Int) × List ((List (Int))) × List (Int) × Int × Int × Int × Int × Int × Int × Int × List (Int × Int) × Int × List (Int × Int × Int × Int × Int × Int))))) fun y=>match y with
 | .inl x23=>
  Option.bind (g_iHead_say (x23,a1,(2:Int))) fun r24=>
  some (r24.1,r24.2)
 | .inr x23=>
  some (x23.1,x23.2):=by kernel_rfl
def c_iHead_take:TC:=
 (.seq (.rg [o1 3 (.a (.t 1)),
 o1 4 (kL 0)])
 (.seq (.join [⟨0,Ty2,false⟩] 618970019642690137449562097 (some [⟨4,[.i .i64],false⟩,⟨0,Ty2,false⟩]) (.block 0 (.seq (.rg [o1 8 (.p0),
 o1 9 (.same 8),
 o1 10 (.load 0 [] 0 (.t 9) 15 true),
 o1 11 (.load 3 [] 0 .nil 4 false),
 o3 12 97 [.t 10,.t 11],
 oc 7 12])
 (.cond (.t 7)
 (.seq (.rg [o1 13 (.p0),
 o1 14 (.load 3 [] 0 .nil 4 false),
 ⟨false,[],[],.call 2 72 [.t 0,.t 14,kO 3] (.mp 0),[15,0,10],(some 15),none⟩,
 oc 4 15])
 .ret)
 (.seq (.rg [oi 17,
 o1 18 (.load 3 [] 1 (.t 17) 1 false),
 o1 19 (.data (.bin .eql) [.t 18,kD 3]),
 oc 16 19])
 (.cond (.t 16)
 (.seq (.rg [o1 21 (.p0),
 o1 22 (.same 21),
 o1 23 (.idx (.t 22)),
 o1 24 (.load 0 [] 0 (.t 23) 1 false),
 o1 25 (.p0),
 o1 26 (.same 25),
 o1 27 (.idx (.t 26)),
 o1 28 (.load 0 [] 3 (.t 27) 1 true),
 o1 29 (.p0),
 o1 30 (.same 29),
 o1 31 (.idx (.t 30)),
 o1 32 (.load 0 [] 2 (.t 31) 1 true),
 o3 33 98 [.t 24,.t 28,.t 32],
 o5 (.copy 33) 20 33,
 o5 (.ext 20 0 1) 34 20,
 o1 35 (.ext 20 1 1),
 o5 (.copy 34) 5 34,
 oc 6 35])
 (.seq (.rg [o1 36 (.p0),
 o1 37 (.load 3 [] 0 .nil 4 false),
 o6 38 5,
 oi 39,
 o1 40 (.load 3 [] 2 (.t 39) 1 false),
 o1 41 (.index 38 (.t 40)),
 o1 42 (.load 5 [(0,1)] 0 (.t 41) 1 false),
 o6 43 5,
 oi 44,
 o1 45 (.load 3 [] 3 (.t 44) 1 false),
 o1 46 (.index 43 (.t 45)),
 o1 47 (.load 5 [(0,1)] 0 (.t 46) 1 false),
 o1 48 (.data (.bin .eql) [.t 42,.t 47]),
 o3 49 73 [.t 48],
 ⟨false,[],[],.call 2 72 [.t 0,.t 37,.t 49] (.mp 0),[50,0,10,28,32],(some 50),none⟩,
 oc 4 50])
 .ret))
 (.seq (.join [⟨51,[.b],false⟩] 295145653379539140608 none (.rg [oi 52,
 o1 53 (.load 3 [] 1 (.t 52) 1 false),
 o1 54 (.data (.bin .eql) [.t 53,kD 4]),
 oc 55 54,
 o2 56 (.p0) 3 true,
 o2 57 (.same 56) 3 true,
 o2 58 (.idx (.t 57)) 3 true,
 o2 59 (.load 0 [] 1 (.t 58) 1 true) 3 true,
 o2 60 (.idx .nil) 3 true,
 o2 61 (.load 3 [] 2 (.t 60) 1 false) 3 true,
 o2 62 (.index 59 (.t 61)) 3 true,
 o2 63 (.load 0 [(1,1)] 0 (.t 62) 1 false) 3 true,
 o2 64 (.idx .nil) 3 true,
 o2 65 (.load 3 [] 3 (.t 64) 1 false) 3 true,
 o2 66 (.data (.bin .eql) [.t 63,.t 65]) 3 true,
 o7 55 (.t 66) (.c (.bool false)) 67,
 oc 51 67]))
 (.cond (.t 51)
 (.seq (.rg [o1 68 (.p0),
 o1 69 (.load 3 [] 0 .nil 4 false),
 ⟨false,[],[],.call 2 72 [.t 0,.t 69,kO 2] (.mp 0),[70,0,10],(some 70),none⟩,
 oc 4 70])
 .ret)
 (.seq (.rg [oi 72,
 o1 73 (.load 3 [] 1 (.t 72) 1 false),
 o1 74 (.data (.bin .eql) [.t 73,kD 4]),
 oc 71 74])
 (.cond (.t 71)
 (.seq (.rg [o1 75 (.p0),
 ⟨false,[],[1000000002],.det 1 (.load 3 [] 0 .nil 4 false),[76],(some 76),none⟩,
 o1 77 (.p0),
 ⟨false,[],[1000000002],.det 1 (.same 77),[78],(some 78),none⟩,
 ⟨false,[],[1000000002],.det 1 (.idx (.t 78)),[79],(some 79),none⟩,
 ⟨false,[],[1000000002],.det 1 (.load 0 [] 1 (.t 79) 1 true),[80],(some 80),none⟩,
 ⟨false,[],[1000000002],.det 1 (.idx .nil),[81],(some 81),none⟩,
 ⟨false,[],[1000000002],.det 1 (.load 3 [] 2 (.t 81) 1 false),[82],(some 82),none⟩,
 ⟨false,[],[1000000002],.det 1 (.index 80 (.t 82)),[83],(some 83),none⟩,
 ⟨false,[],[1000000002],.det 1 (.load 0 [(1,1)] 0 (.t 83) 1 false),[84],(some 84),none⟩,
 oi 85,
 o1 86 (.load 3 [] 2 (.t 85) 1 false),
 o5 (.build Ty10 [(1,kO 3),(3,.t 86)]) 87 1000000002,
 ⟨false,[],[],.call 3 99 [.t 0,.t 76,.t 84,.t 87] (.mp 0),[88,0,87,10,83,80],(some 88),none⟩,
 oc 4 88])
 .ret)
 .skip))))))))))
 (.seq (.rg [o1 89 (.p0),
 o1 90 (.load 3 [] 0 .nil 4 false),
 ⟨false,[],[],.call 2 100 [.t 0,.t 90] (.mp 0),[91,0,10],(some 91),none⟩,
 oc 4 91])
 .ret)))
def s_iHead_take:Sig:=⟨[.mp Ct1,.rd true [.d,.d,.d,.d]],(.one false [.d])⟩
def E_iHead_take:TEnv:=envOf [(97,p_ibadAsk),(72,p_iHead_say),(98,p_iWholeLabels),(73,p_iyesNo),(99,p_iHead_order),(100,p_iHead_edge)]
def f_iHead_take (n:Nat):(Int × List (Int) × List (Int × Int) × List (List (Int)) × List (Int) × Int × Int × Int × Int × Int × Int × Int × List (Int × Int) × Int × List (Int × Int × Int × Int × Int × Int)) × (Int × Int × Int × Int)->Option ((Int) × Int × List (Int) × List (Int × Int) × List (List (Int)) × List (Int) × Int × Int × Int × Int × Int × Int × Int × List (Int × Int) × Int × List (Int × Int × Int × Int × Int × Int)):=runFn n E_iHead_take c_iHead_take [Ty2,Ty11] [.i .i64] Ty2 [4] (.mp 0)
def g_iHead_take:=f_iHead_take BIG
def p_iHead_take:TSp:=⟨s_iHead_take,[Ty2,Ty11],[.i .i64],Ty2,Ou.j (.mp 0),g_iHead_take⟩
theorem k_iHead_take:chkW PG E_iHead_take 69 s_iHead_take (c_iHead_take.ht 92) (.mp 0)=some (c_iHead_take.wc E_iHead_take,[4]):=by kernel_rfl
theorem ok_iHead_take:p_iHead_take.Ok PG 69:=mkOk (env_cons ok_ibadAsk (env_cons ok_iHead_say (env_cons ok_iWholeLabels (env_cons ok_iyesNo (env_cons ok_iHead_order (env_cons ok_iHead_edge (env_nil PG))))))) k_iHead_take (by kernel_rfl)
theorem e_iHead_take (n) (a0) (a1):f_iHead_take n (a0,a1) =
 Option.bind (Option.bind (g_ibadAsk (a0,a1)) fun r0=>
  bif r0.1 then
   Option.bind (g_iHead_say (a0,a1,(3:Int))) fun r1=>
   some (Sum.inr (r1.1,r1.2))
  else bif decide (a1.2.1=(3:Int)) then
   Option.bind (g_iWholeLabels (a0.1,a0.2.2.2.1,a0.2.2.1)) fun r2=>
   bnd r2.1.1.length a1.2.2.1 fun n3=>
   Option.bind r2.1.1[n3]? fun y4=>
   bnd r2.1.1.length a1.2.2.2 fun n5=>
   Option.bind r2.1.1[n5]? fun y6=>
   Option.bind (g_iyesNo (decide (y4=y6))) fun r7=>
   Option.bind (g_iHead_say (a0,a1,r7.1)) fun r8=>
   some (Sum.inr (r8.1,r8.2))
  else Option.bind (bif decide (a1.2.1=(4:Int)) then
   bnd a0.2.1.length a1.2.2.1 fun n9=>
   Option.bind a0.2.1[n9]? fun y10=>
   some (decide (y10=a1.2.2.2))
   else some false:Option (Bool)) fun x11=>
  bif x11 then
   Option.bind (g_iHead_say (a0,a1,(2:Int))) fun r12=>
   some (Sum.inr (r12.1,r12.2))
  else bif decide (a1.2.1=(4:Int)) then
   bnd a0.2.1.length a1.2.2.1 fun n13=>
   Option.bind a0.2.1[n13]? fun y14=>
   Option.bind (g_iHead_order (a0,a1,y14,((0:Int),(3:Int),[],a1.2.2.1))) fun r15=>
   some (Sum.inr (r15.1,r15.2))
  else some (Sum.inl a0):Option (((Int × List (Int) × List (Int × Int) × List ((List (Int))) × List (Int) × Int × Int × Int × Int × Int × Int × Int × List (Int × Int) × Int × List (Int × Int × Int × Int × Int × Int))) ⊕ (Int × (Int × List (Int) × List (Int × Int) × List ((List (Int))) × List (Int) × Int × Int × Int × Int × Int × Int × Int × List (Int × Int) × Int × List (Int × Int × Int × Int × Int × Int))))) fun y=>match y with
 | .inl x16=>
  Option.bind (g_iHead_edge (x16,a1)) fun r17=>
  some (r17.1,r17.2)
 | .inr x16=>
  some (x16.1,x16.2):=by kernel_rfl
def c_iTake:TC:=
 (.seq (.rg [o1 2 (.a (.t 0)),
 o1 3 (.a (.t 1)),
 o5 (.a (.c Ty2 [kV 0,.slice none 0 0,.slice none 0 0,.slice none 0 0,.slice none 0 0,kV 0,kV 0,kV 0,kV 0,kV 0,kV 0,kV 0,.slice none 0 0,kV 0,.slice none 0 0])) 4 1000000001,
 o1 5 (kL 0)])
 (.seq (.rg [o1 8 (.load 2 [] 0 .nil 15 false),
 o3 9 65 [.t 8],
 o5 (.a (.c Ty2 [kV 0,.slice none 0 0,.slice none 0 0,.slice none 0 0,.slice none 0 0,kV 0,kV 0,kV 0,kV 0,kV 0,kV 0,kV 0,.slice none 0 0,kV 0,.slice none 0 0])) 6 1000000001,
 o4 2 [6,9] (.store 6 [] 0 .nil (.t 9))])
 (.seq (.seq (.join [⟨36,[.b],false⟩] 137438952448 none (.rg [o1 10 (.load 2 [] 0 .nil 15 false),
 o3 11 66 [.t 10],
 o1 12 (.data .not [.t 11]),
 oc 13 12,
 o2 14 (.idx .nil) 3 false,
 o2 15 (.load 3 [] 0 (.t 14) 1 false) 3 false,
 ⟨false,[],[],.call 1 63 [.t 15,kO 1,kO 100000] .no,[16],(some 16),some (3,false)⟩,
 o2 17 (.data .not [.t 16]) 3 false,
 o7 13 (.c (.bool true)) (.t 17) 18,
 oc 19 18,
 o2 20 (.idx .nil) 9 false,
 o2 21 (.load 2 [] 14 (.t 20) 1 false) 9 false,
 o2 22 (.idx .nil) 9 false,
 o2 23 (.load 3 [] 0 (.t 22) 1 false) 9 false,
 ⟨false,[],[],.call 1 67 [.t 21,.t 23] .no,[24],(some 24),some (9,false)⟩,
 o2 25 (.data (.bin .geq) [.t 24,kD 0]) 9 false,
 o7 19 (.c (.bool true)) (.t 25) 26,
 oc 27 26,
 o2 28 (.load 2 [] 0 .nil 15 false) 17 false,
 ⟨false,[],[],.call 1 68 [.t 28] .no,[29],(some 29),some (17,false)⟩,
 o7 27 (.c (.bool true)) (.t 29) 30,
 oc 31 30,
 o2 32 (.idx .nil) 21 false,
 o2 33 (.load 2 [] 14 (.t 32) 1 false) 21 false,
 o2 34 (.len 33) 21 false,
 o2 35 (.data (.bin .geq) [.t 34,kD 80]) 21 false,
 o7 31 (.c (.bool true)) (.t 35) 36]))
 (.cond (.t 36)
 (.seq (.rg [o1 37 (.load 6 [] 0 .nil 15 true),
 ⟨false,[37],[],.det 2 (.store 4 [] 0 .nil (.t 37)),[4,37,37,6],none,none⟩,
 o1 5 (kL 0)])
 .ret)
 .skip))
 (.seq (.rg [o1 38 (.load 3 [] 0 .nil 4 false),
 ⟨false,[],[],.call 2 69 [.t 6,.t 38] (.mp 0),[39,6],(some 39),none⟩,
 oc 7 39])
 (.seq (.rg [o1 40 (.load 6 [] 0 .nil 15 true),
 oc 41 7,
 ⟨false,[40],[],.det 2 (.store 4 [] 0 .nil (.t 40)),[4,40,40,6],none,none⟩,
 oc 5 41])
 .ret)))))
def s_iTake:Sig:=⟨[.rd true Ct1,.rd true [.d,.d,.d,.d]],(.tup [(true,15),(false,1)] Ct0)⟩
def E_iTake:TEnv:=envOf [(65,p_icopyHead),(66,p_iHeadOk),(63,p_iin),(67,p_isaidAt),(68,p_iBusy),(69,p_iHead_take)]
def f_iTake (n:Nat):(Int × List (Int) × List (Int × Int) × List (List (Int)) × List (Int) × Int × Int × Int × Int × Int × Int × Int × List (Int × Int) × Int × List (Int × Int × Int × Int × Int × Int)) × (Int × Int × Int × Int)->Option ((Int × List (Int) × List (Int × Int) × List (List (Int)) × List (Int) × Int × Int × Int × Int × Int × Int × Int × List (Int × Int) × Int × List (Int × Int × Int × Int × Int × Int) × Int) × Unit):=runFn n E_iTake c_iTake [Ty2,Ty11] Ty0 [] [4,5] .no
def g_iTake:=f_iTake BIG
def p_iTake:TSp:=⟨s_iTake,[Ty2,Ty11],Ty0,[],Ou.j .no,g_iTake⟩
theorem k_iTake:chkW PG E_iTake 30 s_iTake (c_iTake.ht 42) .no=some (c_iTake.wc E_iTake,[4,5]):=by kernel_rfl
theorem ok_iTake:p_iTake.Ok PG 30:=mkOk (env_cons ok_icopyHead (env_cons ok_iHeadOk (env_cons ok_iin (env_cons ok_isaidAt (env_cons ok_iBusy (env_cons ok_iHead_take (env_nil PG))))))) k_iTake (by kernel_rfl)
theorem e_iTake (n) (a0) (a1):f_iTake n (a0,a1) =
 Option.bind (g_icopyHead a0) fun r0=>
 Option.bind (Option.bind (g_iHeadOk a0) fun r1=>
 bif !r1.1 then
 some true
 else Option.bind (g_iin (a1.1,(1:Int),(100000:Int))) fun r2=>
 bif !r2.1 then
 some true
 else Option.bind (g_isaidAt (a0.2.2.2.2.2.2.2.2.2.2.2.2.2.2,a1.1)) fun r3=>
 bif decide ((0:Int)<=r3.1) then
 some true
 else Option.bind (g_iBusy a0) fun r4=>
 bif r4.1 then
 some true
 else some (decide ((80:Int)<=(a0.2.2.2.2.2.2.2.2.2.2.2.2.2.2.length:Int))):Option (Bool)) fun x5=>
 bif x5 then
 some ((r0.1.1,r0.1.2.1,r0.1.2.2.1,r0.1.2.2.2.1,r0.1.2.2.2.2.1,r0.1.2.2.2.2.2.1,r0.1.2.2.2.2.2.2.1,r0.1.2.2.2.2.2.2.2.1,r0.1.2.2.2.2.2.2.2.2.1,r0.1.2.2.2.2.2.2.2.2.2.1,r0.1.2.2.2.2.2.2.2.2.2.2.1,r0.1.2.2.2.2.2.2.2.2.2.2.2.1,r0.1.2.2.2.2.2.2.2.2.2.2.2.2.1,r0.1.2.2.2.2.2.2.2.2.2.2.2.2.2.1,r0.1.2.2.2.2.2.2.2.2.2.2.2.2.2.2,(0:Int)),())
 else Option.bind (g_iHead_take (r0.1,a1)) fun r6=>
 some ((r6.2.1,r6.2.2.1,r6.2.2.2.1,r6.2.2.2.2.1,r6.2.2.2.2.2.1,r6.2.2.2.2.2.2.1,r6.2.2.2.2.2.2.2.1,r6.2.2.2.2.2.2.2.2.1,r6.2.2.2.2.2.2.2.2.2.1,r6.2.2.2.2.2.2.2.2.2.2.1,r6.2.2.2.2.2.2.2.2.2.2.2.1,r6.2.2.2.2.2.2.2.2.2.2.2.2.1,r6.2.2.2.2.2.2.2.2.2.2.2.2.2.1,r6.2.2.2.2.2.2.2.2.2.2.2.2.2.2.1,r6.2.2.2.2.2.2.2.2.2.2.2.2.2.2.2,r6.1),()):=by kernel_rfl
def c_iAnswerOk:TC:=
 (.seq (.rg [o1 3 (.a (.t 1)),
 o1 4 (.lit [.b] [.bool false])])
 (.seq (.join [⟨4,[.b],false⟩] 16777200 none (.rg [oc 5 0,
 o3 6 63 [.t 5,kO 1,kO 12],
 oc 7 6,
 o2 8 (.idx .nil) 2 true,
 o2 9 (.load 3 [] 0 (.t 8) 1 false) 2 true,
 ⟨false,[],[],.call 1 63 [.t 9,kO 1,kO 100000] .no,[10],(some 10),some (2,true)⟩,
 o7 7 (.t 10) (.c (.bool false)) 11,
 oc 12 11,
 o2 13 (.copy 0) 7 true,
 o2 14 (.idx .nil) 7 true,
 o2 15 (.load 3 [] 2 (.t 14) 1 false) 7 true,
 ⟨false,[],[],.call 1 101 [.t 13,.t 15] .no,[16],(some 16),some (7,true)⟩,
 o7 12 (.t 16) (.c (.bool false)) 17,
 oc 18 17,
 o2 19 (.copy 0) 13 true,
 o2 20 (.idx .nil) 13 true,
 o2 21 (.load 3 [] 3 (.t 20) 1 false) 13 true,
 ⟨false,[],[],.call 1 93 [.t 19,.t 21] .no,[22],(some 22),some (13,true)⟩,
 o7 18 (.t 22) (.c (.bool false)) 23,
 oc 4 23]))
 .ret))
def s_iAnswerOk:Sig:=⟨[.rd false [.d],.rd true Ct4],(.one false [.d])⟩
def E_iAnswerOk:TEnv:=envOf [(63,p_iin),(101,p_iedgesOk),(93,p_ilabelsOk)]
def f_iAnswerOk (n:Nat):Int × (Int × Bool × List (Int × Int) × List (Int))->Option ((Bool) × Unit):=runFn n E_iAnswerOk c_iAnswerOk [[.i .i64],Ty9] [.b] [] [4] .no
def g_iAnswerOk:=f_iAnswerOk BIG
def p_iAnswerOk:TSp:=⟨s_iAnswerOk,[[.i .i64],Ty9],[.b],[],Ou.j .no,g_iAnswerOk⟩
theorem k_iAnswerOk:chkW PG E_iAnswerOk 70 s_iAnswerOk (c_iAnswerOk.ht 24) .no=some (c_iAnswerOk.wc E_iAnswerOk,[4]):=by kernel_rfl
theorem ok_iAnswerOk:p_iAnswerOk.Ok PG 70:=mkOk (env_cons ok_iin (env_cons ok_iedgesOk (env_cons ok_ilabelsOk (env_nil PG)))) k_iAnswerOk (by kernel_rfl)
theorem e_iAnswerOk (n) (a0) (a1):f_iAnswerOk n (a0,a1) =
 Option.bind (Option.bind (g_iin (a0,(1:Int),(12:Int))) fun r0=>
 bif r0.1 then
 Option.bind (g_iin (a1.1,(1:Int),(100000:Int))) fun r1=>
 bif r1.1 then
 Option.bind (g_iedgesOk (a0,a1.2.2.1)) fun r2=>
 bif r2.1 then
 Option.bind (g_ilabelsOk (a0,a1.2.2.2)) fun r3=>
 some r3.1
 else some false
 else some false
 else some false:Option (Bool)) fun x4=>
 some (x4,()):=by kernel_rfl
def c_iowns:TC:=
 (.seq (.rg [o1 6 (.lit [.b] [.bool false])])
 (.seq (.join [⟨6,[.b],false⟩] 1048512 none (.rg [oc 7 1,
 oc 8 0,
 o1 9 (.len 8),
 o1 10 (.data (.bin .sub) [.t 9,kD 1]),
 o3 11 63 [.t 7,kO 0,.t 10],
 oc 12 11,
 o2 13 (.copy 0) 5 true,
 o2 14 (.copy 1) 5 true,
 o2 15 (.index 13 (.t 14)) 5 true,
 o2 16 (.load 13 [(0,1)] 0 (.t 15) 1 false) 5 true,
 o2 17 (.copy 2) 5 true,
 o2 18 (.data (.bin .eql) [.t 16,.t 17]) 5 true,
 o7 12 (.t 18) (.c (.bool false)) 19,
 oc 6 19]))
 .ret))
def s_iowns:Sig:=⟨[.rd false Ct9,.rd false [.d],.rd false [.d]],(.one false [.d])⟩
def E_iowns:TEnv:=envOf [(63,p_iin)]
def f_iowns (n:Nat):List (Int) × Int × Int->Option ((Bool) × Unit):=runFn n E_iowns c_iowns [[.sl [.i .i64]],[.i .i64],[.i .i64]] [.b] [] [6] .no
def g_iowns:=f_iowns BIG
def p_iowns:TSp:=⟨s_iowns,[[.sl [.i .i64]],[.i .i64],[.i .i64]],[.b],[],Ou.j .no,g_iowns⟩
theorem k_iowns:chkW PG E_iowns 116 s_iowns (c_iowns.ht 20) .no=some (c_iowns.wc E_iowns,[6]):=by kernel_rfl
theorem ok_iowns:p_iowns.Ok PG 116:=mkOk (env_cons ok_iin (env_nil PG)) k_iowns (by kernel_rfl)
theorem e_iowns (n) (a0) (a1) (a2):f_iowns n (a0,a1,a2) =
 Option.bind (Option.bind (g_iin (a1,(0:Int),IntKind.wrap .i64 ((a0.length:Int)-(1:Int)))) fun r0=>
 bif r0.1 then
 bnd a0.length a1 fun n1=>
 Option.bind a0[n1]? fun y2=>
 some (decide (y2=a2))
 else some false:Option (Bool)) fun x3=>
 some (x3,()):=by kernel_rfl
def c_iInside:TC:=
 (.seq (.rg [o1 6 (.lit [.sl [.i .i64,.i .i64]] [.slice none 0 0])])
 (.seq (.rg [o1 7 (.lit [.sl [.i .i64,.i .i64]] [.slice none 0 0])])
 (.seq (.join [⟨7,[.sl [.i .i64,.i .i64]],false⟩] 8589934208 none (.seq (.rg [oc 10 1,
 o1 11 (.len 10),
 o1 12 (kL 0)])
 (.block 0 (.loop [⟨7,[.sl [.i .i64,.i .i64]],false⟩,⟨12,[.i .i64],false⟩] 8589931136
 (.seq (.rg [o1 13 (.data (.bin .lss) [.t 12,.t 11])])
 (.seq (.cond (.t 13)
 .skip
 (.exit 0))
 (.seq (.join [⟨7,[.sl [.i .i64,.i .i64]],false⟩] 4294951552 none (.block 1 (.seq (.rg [o1 14 (.index 10 (.t 12)),
 o1 15 (.load 10 [(0,2)] 0 (.t 14) 2 false),
 o5 (.a (.c [.i .i64,.i .i64] [kV 0,kV 0])) 9 1000000001,
 o4 1 [9] (.store 9 [] 0 .nil (.t 15))])
 (.seq (.join [⟨27,[.b],false⟩] 268369920 none (.rg [oc 16 0,
 oi 17,
 o1 18 (.load 9 [] 0 (.t 17) 1 false),
 oc 19 2,
 o3 20 116 [.t 16,.t 18,.t 19],
 oc 21 20,
 o2 22 (.copy 0) 5 true,
 o2 23 (.idx .nil) 5 true,
 o2 24 (.load 9 [] 1 (.t 23) 1 false) 5 true,
 o2 25 (.copy 2) 5 true,
 ⟨false,[],[],.call 1 116 [.t 22,.t 24,.t 25] .no,[26],(some 26),some (5,true)⟩,
 o7 21 (.t 26) (.c (.bool false)) 27]))
 (.cond (.t 27)
 (.rg [o5 (.copy 7) 28 7,
 o1 29 (.load 9 [] 0 .nil 2 false),
 o1 30 (.sli [.i .i64,.i .i64] [.t 29]),
 o5 (.app (some 28) 30) 31 28,
 o5 (.copy 31) 7 31])
 .skip)))))
 (.rg [o1 32 (.data (.bin .add) [.t 12,kD 1]),
 oc 12 32]))))))))
 (.seq (.rg [o5 (.copy 7) 33 7,
 o5 (.copy 33) 6 33])
 .ret))))
def s_iInside:Sig:=⟨[.rd false Ct9,.rd false Ct8,.rd false [.d]],(.one false Ct8)⟩
def E_iInside:TEnv:=envOf [(116,p_iowns)]
def f_iInside (n:Nat):List (Int) × (List (Int × Int)) × Int->Option ((List (Int × Int)) × Unit):=runFn n E_iInside c_iInside [[.sl [.i .i64]],[.sl [.i .i64,.i .i64]],[.i .i64]] [.sl [.i .i64,.i .i64]] [] [6] .no
def g_iInside:=f_iInside BIG
def p_iInside:TSp:=⟨s_iInside,[[.sl [.i .i64]],[.sl [.i .i64,.i .i64]],[.i .i64]],[.sl [.i .i64,.i .i64]],[],Ou.j .no,g_iInside⟩
theorem k_iInside:chkW PG E_iInside 104 s_iInside (c_iInside.ht 34) .no=some (c_iInside.wc E_iInside,[6]):=by kernel_rfl
theorem ok_iInside:p_iInside.Ok PG 104:=mkOk (env_cons ok_iowns (env_nil PG)) k_iInside (by kernel_rfl)
theorem e_iInside (n) (a0) (a1) (a2):f_iInside n (a0,a1,a2) =
 Option.bind (loopT n (X:=(List (Int × Int)) × Int) (B:=(List (Int × Int))) (fun self1 x0=>
 bif decide (x0.2<(a1.length:Int)) then
 Option.bind (bnd a1.length x0.2 fun n2=>
 Option.bind a1[n2]? fun y3=>
 Option.bind (Option.bind (g_iowns (a0,y3.1,a2)) fun r4=>
 bif r4.1 then
 Option.bind (g_iowns (a0,y3.2,a2)) fun r5=>
 some r5.1
 else some false:Option (Bool)) fun x6=>
 bif x6 then
 bif decide (x0.1.length+[y3].length<=4294967296) then
 some (x0.1++[y3])
 else none
 else some x0.1:Option ((List (Int × Int)))) fun x7=>
 self1 (x7,IntKind.wrap .i64 (x0.2+(1:Int)))
 else some x0.1) ([],(0:Int)):Option ((List (Int × Int)))) fun x8=>
 some (x8,()):=by kernel_rfl
def c_iHead_released:TC:=
 (.seq (.rg [o1 4 (.a (.t 1)),
 o1 6 (kL 0)])
 (.seq (.join [⟨0,Ty2,false⟩] 1073725761 (some [⟨6,[.i .i64],false⟩,⟨0,Ty2,false⟩]) (.seq (.rg [oc 14 2,
 o1 15 (.len 14),
 o1 16 (kL 0)])
 (.block 0 (.loop [⟨0,Ty2,false⟩,⟨16,[.i .i64],false⟩] 1073676609
 (.seq (.rg [o1 17 (.data (.bin .lss) [.t 16,.t 15])])
 (.seq (.cond (.t 17)
 .skip
 (.exit 0))
 (.seq (.block 1 (.seq (.rg [o1 18 (.index 14 (.t 16)),
 o1 19 (.load 14 [(0,2)] 0 (.t 18) 2 false),
 o5 (.a (.c [.i .i64,.i .i64] [kV 0,kV 0])) 8 1000000001,
 o4 1 [8] (.store 8 [] 0 .nil (.t 19))])
 (.seq (.rg [o1 20 (.p0),
 o1 21 (.same 20),
 o1 22 (.idx (.t 21)),
 o1 23 (.load 0 [] 2 (.t 22) 1 true),
 o1 24 (.load 8 [] 0 .nil 2 false),
 o3 25 102 [.t 23,.t 24]])
 (.cond (.t 25)
 (.seq (.rg [o1 26 (.p0),
 o1 27 (.load 4 [] 0 .nil 4 false),
 ⟨false,[],[],.call 2 72 [.t 0,.t 27,kO 3] (.mp 0),[28,0,23],(some 28),none⟩,
 oc 6 28])
 .ret)
 .skip))))
 (.rg [o1 29 (.data (.bin .add) [.t 16,kD 1]),
 oc 16 29]))))))))
 (.seq (.seq (.join [⟨49,[.b],false⟩] 1125898833100800 none (.rg [oi 30,
 o1 31 (.load 4 [] 2 (.t 30) 1 false),
 o1 32 (.p0),
 o1 33 (.same 32),
 o1 34 (.idx (.t 33)),
 o1 35 (.load 0 [] 0 (.t 34) 1 false),
 o1 36 (.data (.bin .sub) [.t 35,kD 1]),
 o3 37 63 [.t 31,kO 0,.t 36],
 o1 38 (.data .not [.t 37]),
 oc 39 38,
 o2 40 (.idx .nil) 9 false,
 o2 41 (.load 4 [] 3 (.t 40) 1 false) 9 false,
 o2 42 (.p0) 9 false,
 o2 43 (.same 42) 9 false,
 o2 44 (.idx (.t 43)) 9 false,
 o2 45 (.load 0 [] 3 (.t 44) 1 true) 9 false,
 o2 46 (.len 45) 9 false,
 ⟨false,[],[],.call 1 63 [.t 41,kO 1,.t 46] .no,[47],(some 47),some (9,false)⟩,
 o2 48 (.data .not [.t 47]) 9 false,
 o7 39 (.c (.bool true)) (.t 48) 49]))
 (.cond (.t 49)
 (.seq (.rg [o1 50 (.p0),
 o1 51 (.load 4 [] 0 .nil 4 false),
 ⟨false,[],[],.call 2 72 [.t 0,.t 51,kO 3] (.mp 0),[52,0],(some 52),none⟩,
 oc 6 52])
 .ret)
 .skip))
 (.seq (.join [⟨0,Ty2,false⟩] 590286803159450911745 none (.seq (.rg [oc 53 2,
 o1 54 (.len 53),
 o1 55 (kL 0)])
 (.block 2 (.loop [⟨0,Ty2,false⟩,⟨55,[.i .i64],false⟩] 590259781561686688769
 (.seq (.rg [o1 56 (.data (.bin .lss) [.t 55,.t 54])])
 (.seq (.cond (.t 56)
 .skip
 (.exit 2))
 (.seq (.block 3 (.seq (.rg [o1 57 (.index 53 (.t 55)),
 o1 58 (.load 53 [(0,2)] 0 (.t 57) 2 false),
 o5 (.a (.c [.i .i64,.i .i64] [kV 0,kV 0])) 10 1000000001,
 o4 1 [10] (.store 10 [] 0 .nil (.t 58))])
 (.rg [o1 59 (.p0),
 o1 60 (.p0),
 o1 61 (.same 60),
 o1 62 (.idx (.t 61)),
 o1 63 (.load 0 [] 2 (.t 62) 1 true),
 o1 64 (.load 10 [] 0 .nil 2 false),
 o3 65 103 [.t 63,.t 64],
 o1 66 (.same 59),
 o1 67 (.idx (.t 66)),
 o4 2 [0,65,63] (.store 0 [] 2 (.t 67) (.t 65))])))
 (.rg [o1 68 (.data (.bin .add) [.t 55,kD 1]),
 oc 55 68]))))))))
 (.seq (.rg [o1 69 (.p0),
 o1 70 (.same 69),
 o1 71 (.idx (.t 70)),
 o1 72 (.load 0 [] 1 (.t 71) 1 true),
 oi 73,
 o1 74 (.load 4 [] 2 (.t 73) 1 false),
 oi 75,
 o1 76 (.load 4 [] 3 (.t 75) 1 false),
 o1 77 (.index 72 (.t 74)),
 o4 1 [0,72] (.store 0 [(1,1)] 0 (.t 77) (.t 76))])
 (.seq (.rg [o1 78 (.p0),
 o1 79 (.same 78),
 o1 80 (.idx (.t 79)),
 o1 81 (.load 0 [] 1 (.t 80) 1 true),
 o1 82 (.p0),
 o1 83 (.same 82),
 o1 84 (.idx (.t 83)),
 o1 85 (.load 0 [] 2 (.t 84) 1 true),
 oi 86,
 o1 87 (.load 4 [] 3 (.t 86) 1 false),
 o3 88 104 [.t 81,.t 85,.t 87],
 o5 (.copy 88) 11 88])
 (.seq (.seq (.rg [o6 89 11,
 o1 90 (.len 89),
 o1 91 (.data (.bin .eql) [.t 90,kD 0])])
 (.cond (.t 91)
 (.seq (.rg [o1 92 (.p0),
 o1 93 (.load 4 [] 0 .nil 4 false),
 ⟨false,[],[],.call 2 72 [.t 0,.t 93,kO 1] (.mp 0),[94,0,77,81,85],(some 94),none⟩,
 oc 6 94])
 .ret)
 .skip))
 (.seq (.join [⟨0,Ty2,false⟩] 2596108815186156682096451392643073 none (.seq (.rg [o6 95 11,
 o1 96 (.len 95),
 o1 97 (kL 0)])
 (.block 4 (.loop [⟨0,Ty2,false⟩,⟨97,[.i .i64],false⟩] 2595990014196978879939281663565825
 (.seq (.rg [o1 98 (.data (.bin .lss) [.t 97,.t 96])])
 (.seq (.cond (.t 98)
 .skip
 (.exit 4))
 (.seq (.block 5 (.seq (.rg [o1 99 (.index 95 (.t 97)),
 o1 100 (.load 11 [(0,2)] 0 (.t 99) 2 false),
 o5 (.a (.c [.i .i64,.i .i64] [kV 0,kV 0])) 13 1000000001,
 o4 1 [13] (.store 13 [] 0 .nil (.t 100))])
 (.rg [o1 101 (.p0),
 o1 102 (.p0),
 o1 103 (.same 102),
 o1 104 (.idx (.t 103)),
 o1 105 (.load 0 [] 2 (.t 104) 1 true),
 o1 106 (.load 13 [] 0 .nil 2 false),
 o3 107 105 [.t 105,.t 106],
 o1 108 (.same 101),
 o1 109 (.idx (.t 108)),
 o4 2 [0,107,105] (.store 0 [] 2 (.t 109) (.t 107))])))
 (.rg [o1 110 (.data (.bin .add) [.t 97,kD 1]),
 oc 97 110]))))))))
 (.seq (.rg [o1 111 (.p0),
 o1 112 (.load 4 [] 0 .nil 4 false),
 oi 113,
 o1 114 (.load 4 [] 3 (.t 113) 1 false),
 ⟨false,[],[],.det 2 (.copy 11),[115,11,89,95],(some 115),none⟩,
 ⟨false,[],[],.det 3 (.build Ty10 [(1,kO 4),(2,.t 115)]),[116,1000000002,115],(some 116),none⟩,
 ⟨false,[],[],.call 3 99 [.t 0,.t 112,.t 114,.t 116] (.mp 0),[117,0,116],(some 117),none⟩,
 oc 6 117])
 .ret)))))))))
def s_iHead_released:Sig:=⟨[.mp Ct1,.rd true [.d,.d,.d,.d],.rd false Ct8],(.one false [.d])⟩
def E_iHead_released:TEnv:=envOf [(102,p_ihasEdge),(72,p_iHead_say),(63,p_iin),(103,p_iwithEdge),(104,p_iInside),(105,p_iwithoutEdge),(99,p_iHead_order)]
def f_iHead_released (n:Nat):(Int × List (Int) × List (Int × Int) × List (List (Int)) × List (Int) × Int × Int × Int × Int × Int × Int × Int × List (Int × Int) × Int × List (Int × Int × Int × Int × Int × Int)) × (Int × Int × Int × Int) × (List (Int × Int))->Option ((Int) × Int × List (Int) × List (Int × Int) × List (List (Int)) × List (Int) × Int × Int × Int × Int × Int × Int × Int × List (Int × Int) × Int × List (Int × Int × Int × Int × Int × Int)):=runFn n E_iHead_released c_iHead_released [Ty2,Ty11,[.sl [.i .i64,.i .i64]]] [.i .i64] Ty2 [6] (.mp 0)
def g_iHead_released:=f_iHead_released BIG
def p_iHead_released:TSp:=⟨s_iHead_released,[Ty2,Ty11,[.sl [.i .i64,.i .i64]]],[.i .i64],Ty2,Ou.j (.mp 0),g_iHead_released⟩
theorem k_iHead_released:chkW PG E_iHead_released 74 s_iHead_released (c_iHead_released.ht 118) (.mp 0)=some (c_iHead_released.wc E_iHead_released,[6]):=by kernel_rfl
theorem ok_iHead_released:p_iHead_released.Ok PG 74:=mkOk (env_cons ok_ihasEdge (env_cons ok_iHead_say (env_cons ok_iin (env_cons ok_iwithEdge (env_cons ok_iInside (env_cons ok_iwithoutEdge (env_cons ok_iHead_order (env_nil PG)))))))) k_iHead_released (by kernel_rfl)
theorem e_iHead_released (n) (a0) (a1) (a2):f_iHead_released n (a0,a1,a2) =
 Option.bind (loopT n (X:=(Int × List (Int) × List (Int × Int) × List ((List (Int))) × List (Int) × Int × Int × Int × Int × Int × Int × Int × List (Int × Int) × Int × List (Int × Int × Int × Int × Int × Int)) × Int) (B:=((Int × List (Int) × List (Int × Int) × List ((List (Int))) × List (Int) × Int × Int × Int × Int × Int × Int × Int × List (Int × Int) × Int × List (Int × Int × Int × Int × Int × Int))) ⊕ (Int × (Int × List (Int) × List (Int × Int) × List ((List (Int))) × List (Int) × Int × Int × Int × Int × Int × Int × Int × List (Int × Int) × Int × List (Int × Int × Int × Int × Int × Int)))) (fun self1 x0=>
  bif decide (x0.2<(a2.length:Int)) then
   bnd a2.length x0.2 fun n2=>
   Option.bind a2[n2]? fun y3=>
   Option.bind (g_ihasEdge (x0.1.2.2.1,y3)) fun r4=>
   bif r4.1 then
    Option.bind (g_iHead_say (x0.1,a1,(3:Int))) fun r5=>
    some (Sum.inr (r5.1,r5.2))
   else self1 (x0.1,IntKind.wrap .i64 (x0.2+(1:Int)))
  else some (Sum.inl x0.1)) (a0,(0:Int)):Option (((Int × List (Int) × List (Int × Int) × List ((List (Int))) × List (Int) × Int × Int × Int × Int × Int × Int × Int × List (Int × Int) × Int × List (Int × Int × Int × Int × Int × Int))) ⊕ (Int × (Int × List (Int) × List (Int × Int) × List ((List (Int))) × List (Int) × Int × Int × Int × Int × Int × Int × Int × List (Int × Int) × Int × List (Int × Int × Int × Int × Int × Int))))) fun y=>match y with
 | .inl x6=>
  Option.bind (Option.bind (g_iin (a1.2.2.1,(0:Int),IntKind.wrap .i64 (x6.1-(1:Int)))) fun r7=>
   bif !r7.1 then
    some true
   else Option.bind (g_iin (a1.2.2.2,(1:Int),(x6.2.2.2.1.length:Int))) fun r8=>
   some !r8.1:Option (Bool)) fun x9=>
  bif x9 then
   Option.bind (g_iHead_say (x6,a1,(3:Int))) fun r10=>
   some (r10.1,r10.2)
  else Option.bind (loopT n (X:=(Int × List (Int) × List (Int × Int) × List ((List (Int))) × List (Int) × Int × Int × Int × Int × Int × Int × Int × List (Int × Int) × Int × List (Int × Int × Int × Int × Int × Int)) × Int) (B:=(Int × List (Int) × List (Int × Int) × List ((List (Int))) × List (Int) × Int × Int × Int × Int × Int × Int × Int × List (Int × Int) × Int × List (Int × Int × Int × Int × Int × Int))) (fun self12 x11=>
   bif decide (x11.2<(a2.length:Int)) then
    bnd a2.length x11.2 fun n13=>
    Option.bind a2[n13]? fun y14=>
    Option.bind (g_iwithEdge (x11.1.2.2.1,y14)) fun r15=>
    self12 ((x11.1.1,x11.1.2.1,r15.1,x11.1.2.2.2),IntKind.wrap .i64 (x11.2+(1:Int)))
   else some x11.1) (x6,(0:Int)):Option ((Int × List (Int) × List (Int × Int) × List ((List (Int))) × List (Int) × Int × Int × Int × Int × Int × Int × Int × List (Int × Int) × Int × List (Int × Int × Int × Int × Int × Int)))) fun x16=>
  bnd x16.2.1.length a1.2.2.1 fun n17=>
  Option.bind x16.2.1[n17]? fun y18=>
  Option.bind (g_iInside (x16.2.1.set n17 a1.2.2.2,x16.2.2.1,a1.2.2.2)) fun r19=>
  bif decide ((r19.1.length:Int)=(0:Int)) then
   Option.bind (g_iHead_say ((x16.1,x16.2.1.set n17 a1.2.2.2,x16.2.2),a1,(1:Int))) fun r20=>
   some (r20.1,r20.2)
  else Option.bind (loopT n (X:=(Int × List (Int) × List (Int × Int) × List ((List (Int))) × List (Int) × Int × Int × Int × Int × Int × Int × Int × List (Int × Int) × Int × List (Int × Int × Int × Int × Int × Int)) × Int) (B:=(Int × List (Int) × List (Int × Int) × List ((List (Int))) × List (Int) × Int × Int × Int × Int × Int × Int × Int × List (Int × Int) × Int × List (Int × Int × Int × Int × Int × Int))) (fun self22 x21=>
   bif decide (x21.2<(r19.1.length:Int)) then
    bnd r19.1.length x21.2 fun n23=>
    Option.bind r19.1[n23]? fun y24=>
    Option.bind (g_iwithoutEdge (x21.1.2.2.1,y24)) fun r25=>
    self22 ((x21.1.1,x21.1.2.1,r25.1,x21.1.2.2.2),IntKind.wrap .i64 (x21.2+(1:Int)))
   else some x21.1) ((x16.1,x16.2.1.set n17 a1.2.2.2,x16.2.2),(0:Int)):Option ((Int × List (Int) × List (Int × Int) × List ((List (Int))) × List (Int) × Int × Int × Int × Int × Int × Int × Int × List (Int × Int) × Int × List (Int × Int × Int × Int × Int × Int)))) fun x26=>
  Option.bind (g_iHead_order (x26,a1,a1.2.2.2,((0:Int),(4:Int),r19.1,(0:Int)))) fun r27=>
  some (r27.1,r27.2)
 | .inr x6=>
  some (x6.1,x6.2):=by kernel_rfl
def c_iHear:TC:=
 (.seq (.rg [o1 3 (.a (.t 0)),
 o1 5 (.a (.t 2)),
 o5 (.a (.c Ty2 [kV 0,.slice none 0 0,.slice none 0 0,.slice none 0 0,.slice none 0 0,kV 0,kV 0,kV 0,kV 0,kV 0,kV 0,kV 0,.slice none 0 0,kV 0,.slice none 0 0])) 6 1000000001,
 o1 7 (kL 0)])
 (.seq (.rg [o1 11 (.load 3 [] 0 .nil 15 false),
 o3 12 65 [.t 11],
 o5 (.a (.c Ty2 [kV 0,.slice none 0 0,.slice none 0 0,.slice none 0 0,.slice none 0 0,kV 0,kV 0,kV 0,kV 0,kV 0,kV 0,kV 0,.slice none 0 0,kV 0,.slice none 0 0])) 8 1000000001,
 o4 2 [8,12] (.store 8 [] 0 .nil (.t 12))])
 (.seq (.seq (.join [⟨43,[.b],false⟩] 17592186036224 none (.rg [o1 13 (.load 3 [] 0 .nil 15 false),
 o3 14 66 [.t 13],
 o1 15 (.data .not [.t 14]),
 oc 16 15,
 o2 17 (.idx .nil) 3 false,
 o2 18 (.load 3 [] 0 (.t 17) 1 false) 3 false,
 o2 19 (.load 5 [] 0 .nil 4 false) 3 false,
 ⟨false,[],[],.call 1 70 [.t 18,.t 19] .no,[20],(some 20),some (3,false)⟩,
 o2 21 (.data .not [.t 20]) 3 false,
 o7 16 (.c (.bool true)) (.t 21) 22,
 oc 23 22,
 o2 24 (.load 3 [] 0 .nil 15 false) 10 false,
 ⟨false,[],[],.call 1 68 [.t 24] .no,[25],(some 25),some (10,false)⟩,
 o2 26 (.data .not [.t 25]) 10 false,
 o7 23 (.c (.bool true)) (.t 26) 27,
 oc 28 27,
 o2 29 (.copy 1) 15 false,
 o2 30 (.idx .nil) 15 false,
 o2 31 (.idx (.t 30)) 15 false,
 o2 32 (.load 3 [] 9 (.t 31) 1 false) 15 false,
 o2 33 (.data (.bin .neq) [.t 29,.t 32]) 15 false,
 o7 28 (.c (.bool true)) (.t 33) 34,
 oc 35 34,
 o2 36 (.idx .nil) 22 false,
 o2 37 (.load 5 [] 0 (.t 36) 1 false) 22 false,
 o2 38 (.idx .nil) 22 false,
 o2 39 (.idx (.t 38)) 22 false,
 o2 40 (.idx (.t 39)) 22 false,
 o2 41 (.load 3 [] 10 (.t 40) 1 false) 22 false,
 o2 42 (.data (.bin .neq) [.t 37,.t 41]) 22 false,
 o7 35 (.c (.bool true)) (.t 42) 43]))
 (.cond (.t 43)
 (.seq (.rg [o1 44 (.load 8 [] 0 .nil 15 true),
 ⟨false,[44],[],.det 2 (.store 6 [] 0 .nil (.t 44)),[6,44,44,8],none,none⟩,
 o1 7 (kL 0)])
 .ret)
 .skip))
 (.seq (.rg [oi 45,
 o1 46 (.load 8 [] 5 (.t 45) 9 true),
 o5 (.a (.c Ty5 [kV 0,kV 0,kV 0,kV 0,kV 0,kV 0,kV 0,.slice none 0 0,kV 0])) 9 1000000001,
 ⟨false,[46],[],.det 2 (.store 9 [] 0 .nil (.t 46)),[9,46,46,8],none,none⟩])
 (.seq (.rg [o1 47 (.build Ty5 []),
 oi 48,
 o4 2 [8,47] (.store 8 [] 5 (.t 48) (.t 47))])
 (.seq (.rg [oi 49,
 o1 50 (.load 8 [] 4 (.t 49) 1 true),
 oc 51 1,
 o1 52 (.data (.bin .sub) [.t 51,kD 1]),
 oi 53,
 o1 54 (.load 5 [] 0 (.t 53) 1 false),
 o1 55 (.index 50 (.t 52)),
 o4 1 [8,50] (.store 8 [(4,1)] 0 (.t 55) (.t 54))])
 (.seq (.rg [oi 56,
 o1 57 (.load 8 [] 3 (.t 56) 1 true),
 oc 58 1,
 o1 59 (.data (.bin .sub) [.t 58,kD 1]),
 oi 60,
 o1 61 (.load 5 [] 3 (.t 60) 1 false),
 o3 62 71 [.t 61],
 o1 63 (.index 57 (.t 59)),
 o4 2 [8,62,45,48,49,55,63,57,56] (.store 8 [(3,1)] 0 (.t 63) (.t 62))])
 (.seq (.rg [o1 10 (kL 0)])
 (.seq (.join [⟨8,Ty2,false⟩,⟨10,[.i .i64],false⟩] 309484991374600995015230720 none (.block 0 (.seq (.rg [oi 68,
 o1 69 (.idx (.t 68)),
 o1 70 (.load 9 [] 1 (.t 69) 1 false),
 o1 71 (.data (.bin .neq) [.t 70,kD 4]),
 oc 67 71])
 (.cond (.t 67)
 (.rg [oi 72,
 o1 73 (.load 9 [] 0 (.t 72) 4 false),
 oi 74,
 o1 75 (.load 5 [] 1 (.t 74) 1 false),
 o3 76 73 [.t 75],
 ⟨false,[],[],.call 2 72 [.t 8,.t 73,.t 76] (.mp 0),[77,8],(some 77),none⟩,
 oc 10 77])
 (.seq (.rg [oi 79,
 o1 80 (.idx (.t 79)),
 o1 81 (.load 9 [] 6 (.t 80) 1 false),
 o1 82 (.data (.bin .eql) [.t 81,kD 3]),
 oc 78 82])
 (.cond (.t 78)
 (.rg [oi 83,
 o1 84 (.load 9 [] 0 (.t 83) 4 false),
 oi 85,
 o1 86 (.load 5 [] 2 (.t 85) 1 false),
 ⟨false,[],[],.call 2 74 [.t 8,.t 84,.t 86] (.mp 0),[87,8],(some 87),none⟩,
 oc 10 87])
 (.rg [oi 64,
 o1 65 (.load 9 [] 0 (.t 64) 4 false),
 ⟨false,[],[],.call 2 72 [.t 8,.t 65,kO 1] (.mp 0),[66,8],(some 66),none⟩,
 oc 10 66])))))))
 (.seq (.rg [o1 88 (.load 8 [] 0 .nil 15 true),
 oc 89 10,
 ⟨false,[88],[],.det 2 (.store 6 [] 0 .nil (.t 88)),[6,88,88,8],none,none⟩,
 oc 7 89])
 .ret))))))))))
def s_iHear:Sig:=⟨[.rd true Ct1,.rd false [.d],.rd true Ct4],(.tup [(true,15),(false,1)] Ct0)⟩
def E_iHear:TEnv:=envOf [(65,p_icopyHead),(66,p_iHeadOk),(70,p_iAnswerOk),(68,p_iBusy),(71,p_icopyInts),(73,p_iyesNo),(72,p_iHead_say),(74,p_iHead_released)]
def f_iHear (n:Nat):(Int × List (Int) × List (Int × Int) × List (List (Int)) × List (Int) × Int × Int × Int × Int × Int × Int × Int × List (Int × Int) × Int × List (Int × Int × Int × Int × Int × Int)) × Int × (Int × Bool × List (Int × Int) × List (Int))->Option ((Int × List (Int) × List (Int × Int) × List (List (Int)) × List (Int) × Int × Int × Int × Int × Int × Int × Int × List (Int × Int) × Int × List (Int × Int × Int × Int × Int × Int) × Int) × Unit):=runFn n E_iHear c_iHear [Ty2,[.i .i64],Ty9] Ty0 [] [6,7] .no
def g_iHear:=f_iHear BIG
def p_iHear:TSp:=⟨s_iHear,[Ty2,[.i .i64],Ty9],Ty0,[],Ou.j .no,g_iHear⟩
theorem k_iHear:chkW PG E_iHear 31 s_iHear (c_iHear.ht 90) .no=some (c_iHear.wc E_iHear,[6,7]):=by kernel_rfl
theorem ok_iHear:p_iHear.Ok PG 31:=mkOk (env_cons ok_icopyHead (env_cons ok_iHeadOk (env_cons ok_iAnswerOk (env_cons ok_iBusy (env_cons ok_icopyInts (env_cons ok_iyesNo (env_cons ok_iHead_say (env_cons ok_iHead_released (env_nil PG))))))))) k_iHear (by kernel_rfl)
theorem e_iHear (n) (a0) (a1) (a2):f_iHear n (a0,a1,a2) =
 Option.bind (g_icopyHead a0) fun r0=>
 Option.bind (Option.bind (g_iHeadOk a0) fun r1=>
 bif !r1.1 then
 some true
 else Option.bind (g_iAnswerOk (a0.1,a2)) fun r2=>
 bif !r2.1 then
 some true
 else Option.bind (g_iBusy a0) fun r3=>
 bif !r3.1 then
 some true
 else bif !decide (a1=a0.2.2.2.2.2.2.2.2.2.1) then
 some true
 else some (!decide (a2.1=a0.2.2.2.2.2.2.2.2.2.2.1)):Option (Bool)) fun x4=>
 bif x4 then
 some ((r0.1.1,r0.1.2.1,r0.1.2.2.1,r0.1.2.2.2.1,r0.1.2.2.2.2.1,r0.1.2.2.2.2.2.1,r0.1.2.2.2.2.2.2.1,r0.1.2.2.2.2.2.2.2.1,r0.1.2.2.2.2.2.2.2.2.1,r0.1.2.2.2.2.2.2.2.2.2.1,r0.1.2.2.2.2.2.2.2.2.2.2.1,r0.1.2.2.2.2.2.2.2.2.2.2.2.1,r0.1.2.2.2.2.2.2.2.2.2.2.2.2.1,r0.1.2.2.2.2.2.2.2.2.2.2.2.2.2.1,r0.1.2.2.2.2.2.2.2.2.2.2.2.2.2.2,(0:Int)),())
 else bnd r0.1.2.2.2.2.1.length (IntKind.wrap .i64 (a1-(1:Int))) fun n5=>
 Option.bind r0.1.2.2.2.2.1[n5]? fun y6=>
 Option.bind (g_icopyInts a2.2.2.2) fun r7=>
 bnd r0.1.2.2.2.1.length (IntKind.wrap .i64 (a1-(1:Int))) fun n8=>
 Option.bind r0.1.2.2.2.1[n8]? fun y9=>
 Option.bind (bif !decide (r0.1.2.2.2.2.2.2.1=(4:Int)) then
 Option.bind (g_iyesNo a2.2.1) fun r10=>
 Option.bind (g_iHead_say ((r0.1.1,r0.1.2.1,r0.1.2.2.1,r0.1.2.2.2.1.set n8 r7.1,r0.1.2.2.2.2.1.set n5 a2.1,(0:Int),(0:Int),(0:Int),(0:Int),(0:Int),(0:Int),(0:Int),[],(0:Int),r0.1.2.2.2.2.2.2.2.2.2.2.2.2.2.2),(r0.1.2.2.2.2.2.1,r0.1.2.2.2.2.2.2.1,r0.1.2.2.2.2.2.2.2.1,r0.1.2.2.2.2.2.2.2.2.1),r10.1)) fun r11=>
 some (r11.2,r11.1)
 else bif decide (r0.1.2.2.2.2.2.2.2.2.2.2.2.1=(3:Int)) then
 Option.bind (g_iHead_released ((r0.1.1,r0.1.2.1,r0.1.2.2.1,r0.1.2.2.2.1.set n8 r7.1,r0.1.2.2.2.2.1.set n5 a2.1,(0:Int),(0:Int),(0:Int),(0:Int),(0:Int),(0:Int),(0:Int),[],(0:Int),r0.1.2.2.2.2.2.2.2.2.2.2.2.2.2.2),(r0.1.2.2.2.2.2.1,r0.1.2.2.2.2.2.2.1,r0.1.2.2.2.2.2.2.2.1,r0.1.2.2.2.2.2.2.2.2.1),a2.2.2.1)) fun r12=>
 some (r12.2,r12.1)
 else Option.bind (g_iHead_say ((r0.1.1,r0.1.2.1,r0.1.2.2.1,r0.1.2.2.2.1.set n8 r7.1,r0.1.2.2.2.2.1.set n5 a2.1,(0:Int),(0:Int),(0:Int),(0:Int),(0:Int),(0:Int),(0:Int),[],(0:Int),r0.1.2.2.2.2.2.2.2.2.2.2.2.2.2.2),(r0.1.2.2.2.2.2.1,r0.1.2.2.2.2.2.2.1,r0.1.2.2.2.2.2.2.2.1,r0.1.2.2.2.2.2.2.2.2.1),(1:Int))) fun r13=>
 some (r13.2,r13.1):Option ((Int × List (Int) × List (Int × Int) × List ((List (Int))) × List (Int) × Int × Int × Int × Int × Int × Int × Int × List (Int × Int) × Int × List (Int × Int × Int × Int × Int × Int)) × Int)) fun x14=>
 some ((x14.1.1,x14.1.2.1,x14.1.2.2.1,x14.1.2.2.2.1,x14.1.2.2.2.2.1,x14.1.2.2.2.2.2.1,x14.1.2.2.2.2.2.2.1,x14.1.2.2.2.2.2.2.2.1,x14.1.2.2.2.2.2.2.2.2.1,x14.1.2.2.2.2.2.2.2.2.2.1,x14.1.2.2.2.2.2.2.2.2.2.2.1,x14.1.2.2.2.2.2.2.2.2.2.2.2.1,x14.1.2.2.2.2.2.2.2.2.2.2.2.2.1,x14.1.2.2.2.2.2.2.2.2.2.2.2.2.2.1,x14.1.2.2.2.2.2.2.2.2.2.2.2.2.2.2,x14.2),()):=by kernel_rfl
def c_iHeadFrom:TC:=
 (.seq (.rg [o5 (.a (.c Ty2 [kV 0,.slice none 0 0,.slice none 0 0,.slice none 0 0,.slice none 0 0,kV 0,kV 0,kV 0,kV 0,kV 0,kV 0,kV 0,.slice none 0 0,kV 0,.slice none 0 0])) 6 1000000001,
 o1 7 (.lit [.b] [.bool false])])
 (.seq (.rg [oc 15 0,
 oc 16 1,
 o3 17 29 [.t 15,.t 16],
 o5 (.copy 17) 14 17,
 o5 (.ext 14 0 15) 18 14,
 o1 19 (.ext 14 15 1),
 o5 (.a (.c Ty2 [kV 0,.slice none 0 0,.slice none 0 0,.slice none 0 0,.slice none 0 0,kV 0,kV 0,kV 0,kV 0,kV 0,kV 0,kV 0,.slice none 0 0,kV 0,.slice none 0 0])) 8 1000000001,
 o4 2 [8,18] (.store 8 [] 0 .nil (.t 18)),
 oc 9 19])
 (.seq (.seq (.rg [oc 20 9,
 o1 21 (.data .not [.t 20])])
 (.cond (.t 21)
 (.seq (.rg [o1 22 (.build Ty2 []),
 o4 2 [6,22] (.store 6 [] 0 .nil (.t 22)),
 o1 7 (.lit [.b] [.bool false])])
 .ret)
 .skip))
 (.seq (.join [⟨8,Ty2,false⟩,⟨6,Ty2,false⟩] 144115188067482048 (some [⟨6,Ty2,false⟩,⟨7,[.b],false⟩]) (.seq (.rg [oc 23 2,
 o1 24 (.len 23),
 o1 25 (kL 0)])
 (.block 0 (.loop [⟨8,Ty2,false⟩,⟨6,Ty2,false⟩,⟨25,[.i .i64],false⟩] 144115188042316224
 (.seq (.rg [o1 26 (.data (.bin .lss) [.t 25,.t 24])])
 (.seq (.cond (.t 26)
 .skip
 (.exit 0))
 (.seq (.join [⟨8,Ty2,false⟩,⟨6,Ty2,false⟩] 72057593903724992 (some [⟨6,Ty2,false⟩,⟨7,[.b],false⟩]) (.block 1 (.seq (.rg [o1 27 (.index 23 (.t 25)),
 o1 28 (.load 23 [(0,14)] 0 (.t 27) 14 false),
 o5 (.a (.c Ty4 [kV 0,kV 0,kV 0,kV 0,kV 0,kV 0,kV 0,.bool false,.slice none 0 0,.slice none 0 0,kV 0,kV 0,.slice none 0 0,kV 0])) 11 1000000001,
 o4 1 [11] (.store 11 [] 0 .nil (.t 28))])
 (.seq (.rg [o1 12 (kL 0)])
 (.seq (.rg [o1 29 (.load 8 [] 0 .nil 15 true),
 o5 (.a (.c Ty2 [kV 0,.slice none 0 0,.slice none 0 0,.slice none 0 0,.slice none 0 0,kV 0,kV 0,kV 0,kV 0,kV 0,kV 0,kV 0,.slice none 0 0,kV 0,.slice none 0 0])) 13 1000000001,
 ⟨false,[29],[4000000000],.det 2 (.store 13 [] 0 .nil (.t 29)),[13,29,8],none,none⟩])
 (.seq (.join [⟨13,Ty2,false⟩,⟨12,[.i .i64],false⟩] 4503598553640960 none (.seq (.rg [oi 30,
 o1 31 (.load 11 [] 0 (.t 30) 1 false)])
 (.block 2 (.seq (.rg [o1 33 (.data (.bin .eql) [.t 31,kD 1]),
 oc 32 33])
 (.cond (.t 32)
 (.rg [o1 35 (.load 8 [] 0 .nil 15 false),
 oi 36,
 o1 37 (.load 11 [] 1 (.t 36) 4 false),
 o3 38 30 [.t 35,.t 37],
 o5 (.copy 38) 34 38,
 o5 (.ext 34 0 15) 39 34,
 o1 40 (.ext 34 15 1),
 o4 2 [13,39] (.store 13 [] 0 .nil (.t 39)),
 oc 12 40])
 (.seq (.rg [o1 42 (.data (.bin .eql) [.t 31,kD 2]),
 oc 41 42])
 (.cond (.t 41)
 (.rg [o1 44 (.load 8 [] 0 .nil 15 false),
 oi 45,
 o1 46 (.load 11 [] 5 (.t 45) 1 false),
 oi 47,
 o1 48 (.load 11 [] 6 (.t 47) 4 false),
 o3 49 31 [.t 44,.t 46,.t 48],
 o5 (.copy 49) 43 49,
 o5 (.ext 43 0 15) 50 43,
 o1 51 (.ext 43 15 1),
 o4 2 [13,50] (.store 13 [] 0 .nil (.t 50)),
 oc 12 51])
 .skip)))))))
 (.seq (.seq (.rg [oc 52 12,
 o1 53 (.data (.bin .eql) [.t 52,kD 0])])
 (.cond (.t 53)
 (.seq (.rg [o1 54 (.build Ty2 []),
 o4 2 [6,54] (.store 6 [] 0 .nil (.t 54)),
 o1 7 (.lit [.b] [.bool false])])
 .ret)
 .skip))
 (.rg [o1 55 (.load 13 [] 0 .nil 15 true),
 ⟨false,[55],[],.det 2 (.store 8 [] 0 .nil (.t 55)),[8,55,55,13],none,none⟩]))))))))
 (.rg [o1 56 (.data (.bin .add) [.t 25,kD 1]),
 oc 25 56]))))))))
 (.seq (.rg [o1 57 (.load 8 [] 0 .nil 15 true),
 ⟨false,[57],[4000000000],.det 2 (.store 6 [] 0 .nil (.t 57)),[6,57,8],none,none⟩,
 o1 7 (.lit [.b] [.bool true])])
 .ret)))))
def s_iHeadFrom:Sig:=⟨[.rd false [.d],.rd false [.d],.rd false Ct2],(.tup [(true,15),(false,1)] Ct0)⟩
def E_iHeadFrom:TEnv:=envOf [(29,p_iHeadNew),(30,p_iTake),(31,p_iHear)]
def f_iHeadFrom (n:Nat):Int × Int × (List (Int × Int × Int × Int × Int × Int × Int × Bool × List (Int × Int) × List (Int) × Int × Int × List (Int × Int) × Int))->Option ((Int × List (Int) × List (Int × Int) × List (List (Int)) × List (Int) × Int × Int × Int × Int × Int × Int × Int × List (Int × Int) × Int × List (Int × Int × Int × Int × Int × Int) × Bool) × Unit):=runFn n E_iHeadFrom c_iHeadFrom [[.i .i64],[.i .i64],Ty3] Ty1 [] [6,7] .no
def g_iHeadFrom:=f_iHeadFrom BIG
def p_iHeadFrom:TSp:=⟨s_iHeadFrom,[[.i .i64],[.i .i64],Ty3],Ty1,[],Ou.j .no,g_iHeadFrom⟩
theorem k_iHeadFrom:chkW PG E_iHeadFrom 15 s_iHeadFrom (c_iHeadFrom.ht 58) .no=some (c_iHeadFrom.wc E_iHeadFrom,[6,7]):=by kernel_rfl
theorem ok_iHeadFrom:p_iHeadFrom.Ok PG 15:=mkOk (env_cons ok_iHeadNew (env_cons ok_iTake (env_cons ok_iHear (env_nil PG)))) k_iHeadFrom (by kernel_rfl)
theorem e_iHeadFrom (n) (a0) (a1) (a2):f_iHeadFrom n (a0,a1,a2) =
 Option.bind (g_iHeadNew (a0,a1)) fun r0=>
 bif !r0.1.2.2.2.2.2.2.2.2.2.2.2.2.2.2.2 then
  some (((0:Int),[],[],[],[],(0:Int),(0:Int),(0:Int),(0:Int),(0:Int),(0:Int),(0:Int),[],(0:Int),[],false),())
 else Option.bind (loopT n (X:=(Int × List (Int) × List (Int × Int) × List ((List (Int))) × List (Int) × Int × Int × Int × Int × Int × Int × Int × List (Int × Int) × Int × List (Int × Int × Int × Int × Int × Int)) × (Int × List (Int) × List (Int × Int) × List ((List (Int))) × List (Int) × Int × Int × Int × Int × Int × Int × Int × List (Int × Int) × Int × List (Int × Int × Int × Int × Int × Int)) × Int) (B:=((Int × List (Int) × List (Int × Int) × List ((List (Int))) × List (Int) × Int × Int × Int × Int × Int × Int × Int × List (Int × Int) × Int × List (Int × Int × Int × Int × Int × Int)) × (Int × List (Int) × List (Int × Int) × List ((List (Int))) × List (Int) × Int × Int × Int × Int × Int × Int × Int × List (Int × Int) × Int × List (Int × Int × Int × Int × Int × Int))) ⊕ ((Int × List (Int) × List (Int × Int) × List ((List (Int))) × List (Int) × Int × Int × Int × Int × Int × Int × Int × List (Int × Int) × Int × List (Int × Int × Int × Int × Int × Int)) × Bool)) (fun self2 x1=>
  bif decide (x1.2.2<(a2.length:Int)) then
   Option.bind (bnd a2.length x1.2.2 fun n3=>
    Option.bind a2[n3]? fun y4=>
    Option.bind (bif decide (y4.1=(1:Int)) then
     Option.bind (g_iTake (x1.1,(y4.2.1,y4.2.2.1,y4.2.2.2.1,y4.2.2.2.2.1))) fun r5=>
     some ((r5.1.1,r5.1.2.1,r5.1.2.2.1,r5.1.2.2.2.1,r5.1.2.2.2.2.1,r5.1.2.2.2.2.2.1,r5.1.2.2.2.2.2.2.1,r5.1.2.2.2.2.2.2.2.1,r5.1.2.2.2.2.2.2.2.2.1,r5.1.2.2.2.2.2.2.2.2.2.1,r5.1.2.2.2.2.2.2.2.2.2.2.1,r5.1.2.2.2.2.2.2.2.2.2.2.2.1,r5.1.2.2.2.2.2.2.2.2.2.2.2.2.1,r5.1.2.2.2.2.2.2.2.2.2.2.2.2.2.1,r5.1.2.2.2.2.2.2.2.2.2.2.2.2.2.2.1),r5.1.2.2.2.2.2.2.2.2.2.2.2.2.2.2.2)
     else bif decide (y4.1=(2:Int)) then
      Option.bind (g_iHear (x1.1,y4.2.2.2.2.2.1,(y4.2.2.2.2.2.2.1,y4.2.2.2.2.2.2.2.1,y4.2.2.2.2.2.2.2.2.1,y4.2.2.2.2.2.2.2.2.2.1))) fun r6=>
      some ((r6.1.1,r6.1.2.1,r6.1.2.2.1,r6.1.2.2.2.1,r6.1.2.2.2.2.1,r6.1.2.2.2.2.2.1,r6.1.2.2.2.2.2.2.1,r6.1.2.2.2.2.2.2.2.1,r6.1.2.2.2.2.2.2.2.2.1,r6.1.2.2.2.2.2.2.2.2.2.1,r6.1.2.2.2.2.2.2.2.2.2.2.1,r6.1.2.2.2.2.2.2.2.2.2.2.2.1,r6.1.2.2.2.2.2.2.2.2.2.2.2.2.1,r6.1.2.2.2.2.2.2.2.2.2.2.2.2.2.1,r6.1.2.2.2.2.2.2.2.2.2.2.2.2.2.2.1),r6.1.2.2.2.2.2.2.2.2.2.2.2.2.2.2.2)
     else some (x1.1,(0:Int)):Option ((Int × List (Int) × List (Int × Int) × List ((List (Int))) × List (Int) × Int × Int × Int × Int × Int × Int × Int × List (Int × Int) × Int × List (Int × Int × Int × Int × Int × Int)) × Int)) fun x7=>
    bif decide (x7.2=(0:Int)) then
     some (Sum.inr (((0:Int),[],[],[],[],(0:Int),(0:Int),(0:Int),(0:Int),(0:Int),(0:Int),(0:Int),[],(0:Int),[]),false))
    else some (Sum.inl (x7.1,x1.2.1)):Option (((Int × List (Int) × List (Int × Int) × List ((List (Int))) × List (Int) × Int × Int × Int × Int × Int × Int × Int × List (Int × Int) × Int × List (Int × Int × Int × Int × Int × Int)) × (Int × List (Int) × List (Int × Int) × List ((List (Int))) × List (Int) × Int × Int × Int × Int × Int × Int × Int × List (Int × Int) × Int × List (Int × Int × Int × Int × Int × Int))) ⊕ ((Int × List (Int) × List (Int × Int) × List ((List (Int))) × List (Int) × Int × Int × Int × Int × Int × Int × Int × List (Int × Int) × Int × List (Int × Int × Int × Int × Int × Int)) × Bool))) fun y=>match y with
   | .inl x8=>
    self2 (x8.1,x8.2,IntKind.wrap .i64 (x1.2.2+(1:Int)))
   | .inr x8=>
    some (Sum.inr (x8.1,x8.2))
  else some (Sum.inl (x1.1,x1.2.1))) ((r0.1.1,r0.1.2.1,r0.1.2.2.1,r0.1.2.2.2.1,r0.1.2.2.2.2.1,r0.1.2.2.2.2.2.1,r0.1.2.2.2.2.2.2.1,r0.1.2.2.2.2.2.2.2.1,r0.1.2.2.2.2.2.2.2.2.1,r0.1.2.2.2.2.2.2.2.2.2.1,r0.1.2.2.2.2.2.2.2.2.2.2.1,r0.1.2.2.2.2.2.2.2.2.2.2.2.1,r0.1.2.2.2.2.2.2.2.2.2.2.2.2.1,r0.1.2.2.2.2.2.2.2.2.2.2.2.2.2.1,r0.1.2.2.2.2.2.2.2.2.2.2.2.2.2.2.1),((0:Int),[],[],[],[],(0:Int),(0:Int),(0:Int),(0:Int),(0:Int),(0:Int),(0:Int),[],(0:Int),[]),(0:Int)):Option (((Int × List (Int) × List (Int × Int) × List ((List (Int))) × List (Int) × Int × Int × Int × Int × Int × Int × Int × List (Int × Int) × Int × List (Int × Int × Int × Int × Int × Int)) × (Int × List (Int) × List (Int × Int) × List ((List (Int))) × List (Int) × Int × Int × Int × Int × Int × Int × Int × List (Int × Int) × Int × List (Int × Int × Int × Int × Int × Int))) ⊕ ((Int × List (Int) × List (Int × Int) × List ((List (Int))) × List (Int) × Int × Int × Int × Int × Int × Int × Int × List (Int × Int) × Int × List (Int × Int × Int × Int × Int × Int)) × Bool))) fun y=>match y with
 | .inl x9=>
  some ((x9.1.1,x9.1.2.1,x9.1.2.2.1,x9.1.2.2.2.1,x9.1.2.2.2.2.1,x9.1.2.2.2.2.2.1,x9.1.2.2.2.2.2.2.1,x9.1.2.2.2.2.2.2.2.1,x9.1.2.2.2.2.2.2.2.2.1,x9.1.2.2.2.2.2.2.2.2.2.1,x9.1.2.2.2.2.2.2.2.2.2.2.1,x9.1.2.2.2.2.2.2.2.2.2.2.2.1,x9.1.2.2.2.2.2.2.2.2.2.2.2.2.1,x9.1.2.2.2.2.2.2.2.2.2.2.2.2.2.1,x9.1.2.2.2.2.2.2.2.2.2.2.2.2.2.2,true),())
 | .inr x9=>
  some ((x9.1.1,x9.1.2.1,x9.1.2.2.1,x9.1.2.2.2.1,x9.1.2.2.2.2.1,x9.1.2.2.2.2.2.1,x9.1.2.2.2.2.2.2.1,x9.1.2.2.2.2.2.2.2.1,x9.1.2.2.2.2.2.2.2.2.1,x9.1.2.2.2.2.2.2.2.2.2.1,x9.1.2.2.2.2.2.2.2.2.2.2.1,x9.1.2.2.2.2.2.2.2.2.2.2.2.1,x9.1.2.2.2.2.2.2.2.2.2.2.2.2.1,x9.1.2.2.2.2.2.2.2.2.2.2.2.2.2.1,x9.1.2.2.2.2.2.2.2.2.2.2.2.2.2.2,x9.2),()):=by kernel_rfl
def c_iDecided:TC:=
 (.seq (.rg [o1 6 (.lit Ty7 [.slice none 0 0]),
 o1 7 (.lit [.b] [.bool false])])
 (.seq (.rg [oc 11 0,
 oc 12 1,
 oc 13 2,
 o3 14 15 [.t 11,.t 12,.t 13],
 o5 (.copy 14) 10 14,
 o5 (.ext 10 0 15) 15 10,
 o1 16 (.ext 10 15 1),
 o5 (.a (.c Ty2 [kV 0,.slice none 0 0,.slice none 0 0,.slice none 0 0,.slice none 0 0,kV 0,kV 0,kV 0,kV 0,kV 0,kV 0,kV 0,.slice none 0 0,kV 0,.slice none 0 0])) 8 1000000001,
 o4 2 [8,15] (.store 8 [] 0 .nil (.t 15)),
 oc 9 16])
 (.seq (.rg [oi 17,
 o1 18 (.load 8 [] 14 (.t 17) 1 true),
 oc 19 9,
 ⟨false,[18],[],.det 2 (.copy 18),[6,18,18,8],(some 6),none⟩,
 oc 7 19])
 .ret)))
def s_iDecided:Sig:=⟨[.rd false [.d],.rd false [.d],.rd false Ct2],(.tup [(false,1),(false,1)] [.sl (.own none) Ct10,.d])⟩
def E_iDecided:TEnv:=envOf [(15,p_iHeadFrom)]
def f_iDecided (n:Nat):Int × Int × (List (Int × Int × Int × Int × Int × Int × Int × Bool × List (Int × Int) × List (Int) × Int × Int × List (Int × Int) × Int))->Option ((List (Int × Int × Int × Int × Int × Int) × Bool) × Unit):=runFn n E_iDecided c_iDecided [[.i .i64],[.i .i64],Ty3] Ty6 [] [6,7] .no
def g_iDecided:=f_iDecided BIG
def p_iDecided:TSp:=⟨s_iDecided,[[.i .i64],[.i .i64],Ty3],Ty6,[],Ou.j .no,g_iDecided⟩
theorem k_iDecided:chkW PG E_iDecided 8 s_iDecided (c_iDecided.ht 20) .no=some (c_iDecided.wc E_iDecided,[6,7]):=by kernel_rfl
theorem ok_iDecided:p_iDecided.Ok PG 8:=mkOk (env_cons ok_iHeadFrom (env_nil PG)) k_iDecided (by kernel_rfl)
theorem e_iDecided (n) (a0) (a1) (a2):f_iDecided n (a0,a1,a2) =
 Option.bind (g_iHeadFrom (a0,a1,a2)) fun r0=>
 some (r0.1.2.2.2.2.2.2.2.2.2.2.2.2.2.2,()):=by kernel_rfl
end
end Go.Fw
