/- The given functions, as what they compute; each is shown to be what the code does. No conditions. -/
import Derived.Test.YtbdciplhpomakaaG5
import Derived.Test.YtbdciplhpomakaaProg
set_option linter.unusedVariables false
set_option linter.unusedSimpArgs false
set_option linter.unusedSectionVars false
namespace Go.Fw
noncomputable abbrev PG:=Go.Proofs.Try.prog
def o2 (d:Nat) (e:ED) (j:Nat) (b:Bool):TO:=⟨false,[],[],.det 1 e,[d],some d,some (j,b)⟩
def o3 (d:Nat) (K:FuncId) (gets:List OY):TO:=⟨false,[],[],.call 1 K gets .no,[d],some d,none⟩
def o4 (n:Nat) (ds:List Nat) (e:ED):TO:=⟨false,[],[],.det n e,ds,none,none⟩
abbrev Ty0 : List TY := [.i .i64, .i .i64, .sl [.i .i64, .i .i64, .i .i64, .b], .i .i64, .b, .sl [.i .i64, .i .i64], .sl [.i .i64], .i .i64, .b, .sl [.i .i64, .i .i64], .sl [.i .i64], .i .i64]
abbrev Ty1 : List TY := [.i .i64, .i .i64, .sl [.i .i64, .i .i64, .i .i64, .b], .i .i64, .b, .sl [.i .i64, .i .i64], .sl [.i .i64]]
abbrev Ty2 : List TY := [.i .i64, .sl [.i .i64, .i .i64, .i .i64, .b], .i .i64, .i .i64, .b, .b]
abbrev Ty3 : List TY := [.i .i64, .b, .sl [.i .i64, .i .i64], .sl [.i .i64]]
abbrev Ty4 : List TY := [.i .i64, .i .i64, .sl [.i .i64, .i .i64], .i .i64]
abbrev Ty5 : List TY := [.i .i64, .sl [.i .i64, .i .i64, .i .i64, .b], .b]
abbrev Ty6 : List TY := [.i .i64, .sl [.i .i64, .i .i64, .i .i64, .b]]
abbrev Ty7 : List TY := [.i .i64, .sl [.i .i64, .i .i64], .b]
abbrev Ty8 : List TY := [.sl [.i .i64, .i .i64, .i .i64, .b]]
abbrev Ty9 : List TY := [.i .i64, .sl [.i .i64, .i .i64]]
abbrev Ty10 : List TY := [.sl [.i .u8], .i .i64, .i .i64]
abbrev Ty11 : List TY := [.i .i64, .i .i64, .i .i64, .b]
abbrev Ty12 : List TY := [.i .i64, .sl [.sl [.i .i64]]]
abbrev Ct0:List CT:=[.d,.d,.sl (.own none) [.d,.d,.d,.d],.d,.d,.sl (.own none) [.d,.d],.sl (.own none) [.d]]
abbrev Ct1:List CT:=[.d,.d,.sl (.own none) [.d,.d],.sl (.own none) [.d]]
abbrev Ct2:List CT:=[.d,.sl (.own none) [.d,.d,.d,.d],.d]
abbrev Ct3:List CT:=[.d,.d,.sl (.own none) [.d,.d],.d]
abbrev Ct4:List CT:=[.d,.sl (.own none) [.d,.d,.d,.d]]
abbrev Ct5:List CT:=[.d,.sl (.own none) [.d,.d]]
abbrev Ct6:List CT:=[.sl (.own none) [.d,.d]]
abbrev Ct7:List CT:=[.sl (.own none) [.d]]
def oc (d s:Nat):TO:=o1 d (.copy s)
def oi (d:Nat):TO:=o1 d (.idx .nil)
def o5 (e:ED) (d x:Nat):TO:=⟨false,[],[],.det 2 e,[d,x],some d,none⟩
def o6 (d s:Nat):TO:=⟨true,[],[],.det 1 (.copy s),[d],some d,none⟩
def o7 (a:Nat) (x y:DX) (d:Nat):TO:=⟨false,[],[],.pick a x y,[d],some d,none⟩
abbrev kV (n:Int):Value:=.int .i64 n
abbrev kO (n:Int):OY:=.c [.i .i64] [kV n]
abbrev kD (n:Int):DX:=.c (kV n)
abbrev kL (n:Int):ED:=.lit [.i .i64] [kV n]
abbrev iI:TY:=.i .i64
end Go.Fw
namespace Go.Fw
noncomputable section
def c_lbig:TC:=
 (.seq (.rg [o1 2 (.lit [.b] [.bool false])])
 (.seq (.rg [oc 3 0,
 o1 4 (.len 3),
 o1 5 (.data (.bin .gtr) [.t 4,kD 1048576]),
 oc 2 5])
 .ret))
def s_lbig:Sig:=⟨[.rd false Ct7],(.one false [.d])⟩
def E_lbig:TEnv:=envOf []
def f_lbig (n:Nat):List (Int)->Option ((Bool) × Unit):=runFn n E_lbig c_lbig [[.sl [.i .u8]]] [.b] [] [2] .no
def g_lbig:=f_lbig BIG
def p_lbig:TSp:=⟨s_lbig,[[.sl [.i .u8]]],[.b],[],Ou.j .no,g_lbig⟩
theorem k_lbig:chkW PG E_lbig 6 s_lbig (c_lbig.ht 6) .no=some (c_lbig.wc E_lbig,[2]):=by kernel_rfl
theorem ok_lbig:p_lbig.Ok PG 6:=mkOk (env_nil PG) k_lbig (by kernel_rfl)
theorem e_lbig (n) (a0):f_lbig n a0 =
 some (decide ((1048576:Int)<(a0.length:Int)),()):=by kernel_rfl
def c_sl01New:TC:=
 (.seq (.rg [o1 2 (.nl)])
 (.seq (.rg [oc 5 0,
 o1 6 (.len 5),
 o1 7 (.data (.bin .add) [kD 13501,.t 6]),
 oc 3 7])
 (.seq (.join [⟨3,[.i .i64],false⟩] 268435224 none (.seq (.rg [o1 4 (kL 0)])
 (.block 0 (.loop [⟨3,[.i .i64],false⟩,⟨4,[.i .i64],false⟩] 268435224
 (.seq (.seq (.join [⟨15,[.b],false⟩] 65280 none (.rg [oc 8 4,
 oc 9 0,
 o1 10 (.len 9),
 o1 11 (.data (.bin .lss) [.t 8,.t 10]),
 oc 12 11,
 o2 13 (.copy 4) 4 true,
 o2 14 (.data (.bin .lss) [.t 13,kD 4000]) 4 true,
 o7 12 (.t 14) (.c (.bool false)) 15]))
 (.cond (.t 15)
 .skip
 (.exit 0)))
 (.seq (.block 1 (.rg [oc 18 3,
 o1 19 (.data (.bin .mul) [.t 18,kD 131]),
 oc 20 0,
 oc 21 4,
 o1 22 (.index 20 (.t 21)),
 o1 23 (.load 20 [(0,1)] 0 (.t 22) 1 false),
 o1 24 (.data (.conv .i64) [.t 23]),
 o1 25 (.data (.bin .add) [.t 19,.t 24]),
 o1 26 (.data (.bin .add) [.t 25,kD 7]),
 o1 27 (.data (.bin .and) [.t 26,kD 1073741823]),
 oc 3 27]))
 (.rg [oc 16 4,
 o1 17 (.data (.bin .add) [.t 16,kD 1]),
 oc 4 17])))))))
 (.seq (.rg [oc 28 0,
 oc 29 3,
 o1 30 (.build Ty10 [(0,.t 28),(2,.t 29)]),
 o1 31 (.a (.t 30)),
 ⟨true,[],[],.det 2 (.copy 31),[2,31],(some 2),none⟩])
 .ret))))
def s_sl01New:Sig:=⟨[.rd false Ct7],(.bx [.sl (.ro [0]) [.d],.d,.d])⟩
def E_sl01New:TEnv:=envOf []
def f_sl01New (n:Nat):List (Int)->Option ((List (Int) × Int × Int) × Unit):=runFn n E_sl01New c_sl01New [[.sl [.i .u8]]] Ty10 [] [2] .no
def g_sl01New:=f_sl01New BIG
def p_sl01New:TSp:=⟨s_sl01New,[[.sl [.i .u8]]],Ty10,[],Ou.j .no,g_sl01New⟩
theorem k_sl01New:chkW PG E_sl01New 33 s_sl01New (c_sl01New.ht 32) .no=some (c_sl01New.wc E_sl01New,[2]):=by kernel_rfl
theorem ok_sl01New:p_sl01New.Ok PG 33:=mkOk (env_nil PG) k_sl01New (by kernel_rfl)
theorem e_sl01New (n) (a0):f_sl01New n a0 =
 Option.bind (loopT n (X:=Int × Int) (B:=Int) (fun self1 x0=>
 Option.bind (bif decide (x0.2<(a0.length:Int)) then
 some (decide (x0.2<(4000:Int)))
 else some false:Option (Bool)) fun x2=>
 bif x2 then
 bnd a0.length x0.2 fun n3=>
 Option.bind a0[n3]? fun y4=>
 self1 (bits .and .i64 (IntKind.wrap .i64 ((IntKind.wrap .i64 ((IntKind.wrap .i64 (x0.1*(131:Int)))+(IntKind.wrap .i64 (y4))))+(7:Int))) (1073741823:Int),IntKind.wrap .i64 (x0.2+(1:Int)))
 else some x0.1) (IntKind.wrap .i64 ((13501:Int)+(a0.length:Int)),(0:Int)):Option (Int)) fun x5=>
 some ((a0,(0:Int),x5),()):=by kernel_rfl
def c_sl01Byte:TC:=
 (.seq (.rg [o1 2 (kL 0)])
 (.seq (.rg [o1 4 (.p0),
 o1 5 (.p0),
 o1 6 (.same 5),
 o1 7 (.idx (.t 6)),
 o1 8 (.load 0 [] 2 (.t 7) 1 false),
 o1 9 (.data (.bin .mul) [.t 8,kD 6364136223846793005]),
 o1 10 (.data (.bin .add) [.t 9,kD 1442695040888963407]),
 o1 11 (.same 4),
 o1 12 (.idx (.t 11)),
 o4 1 [0] (.store 0 [] 2 (.t 12) (.t 10))])
 (.seq (.rg [o1 13 (.p0),
 o1 18 (.p0),
 o1 14 (.same 13),
 o1 15 (.idx (.t 14)),
 o1 16 (.load 0 [] 2 (.t 15) 1 false),
 o1 17 (.data (.bin .shr) [.t 16,.c (.int .u64 (33))]),
 o1 19 (.same 18),
 o1 20 (.idx (.t 19)),
 o1 21 (.load 0 [] 2 (.t 20) 1 false),
 o1 22 (.data (.bin .shr) [.t 21,.c (.int .u64 (45))]),
 o1 23 (.data (.bin .xor) [.t 17,.t 22]),
 o1 24 (.data (.bin .and) [.t 23,kD 255]),
 oc 3 24])
 (.seq (.join [⟨3,[.i .i64],false⟩,⟨0,Ty10,false⟩] 144115188042301449 none (.seq (.rg [o1 25 (.p0),
 o1 29 (.p0),
 o1 26 (.same 25),
 o1 27 (.idx (.t 26)),
 o1 28 (.load 0 [] 1 (.t 27) 1 false),
 o1 30 (.same 29),
 o1 31 (.idx (.t 30)),
 o1 32 (.load 0 [] 0 (.t 31) 1 false),
 o1 33 (.len 32),
 o1 34 (.data (.bin .lss) [.t 28,.t 33])])
 (.cond (.t 34)
 (.seq (.rg [oc 35 3,
 o1 36 (.p0),
 o1 40 (.p0),
 o1 37 (.same 36),
 o1 38 (.idx (.t 37)),
 o1 39 (.load 0 [] 0 (.t 38) 1 false),
 o1 41 (.same 40),
 o1 42 (.idx (.t 41)),
 o1 43 (.load 0 [] 1 (.t 42) 1 false),
 o1 44 (.index 39 (.t 43)),
 o1 45 (.load 39 [(0,1)] 0 (.t 44) 1 false),
 o1 46 (.data (.conv .i64) [.t 45]),
 o1 47 (.data (.bin .add) [.t 35,.t 46]),
 o1 48 (.data (.bin .and) [.t 47,kD 255]),
 oc 3 48])
 (.rg [o1 49 (.p0),
 o1 50 (.p0),
 o1 51 (.same 50),
 o1 52 (.idx (.t 51)),
 o1 53 (.load 0 [] 1 (.t 52) 1 false),
 o1 54 (.data (.bin .add) [.t 53,kD 1]),
 o1 55 (.same 49),
 o1 56 (.idx (.t 55)),
 o4 1 [0] (.store 0 [] 1 (.t 56) (.t 54))]))
 .skip)))
 (.seq (.rg [oc 57 3,
 oc 2 57])
 .ret)))))
def s_sl01Byte:Sig:=⟨[.mp [.sl (.ro []) [.d],.d,.d]],(.one false [.d])⟩
def E_sl01Byte:TEnv:=envOf []
def f_sl01Byte (n:Nat):(List (Int) × Int × Int)->Option ((Int) × List (Int) × Int × Int):=runFn n E_sl01Byte c_sl01Byte [Ty10] [.i .i64] Ty10 [2] (.mp 0)
def g_sl01Byte:=f_sl01Byte BIG
def p_sl01Byte:TSp:=⟨s_sl01Byte,[Ty10],[.i .i64],Ty10,Ou.j (.mp 0),g_sl01Byte⟩
theorem k_sl01Byte:chkW PG E_sl01Byte 75 s_sl01Byte (c_sl01Byte.ht 58) (.mp 0)=some (c_sl01Byte.wc E_sl01Byte,[2]):=by kernel_rfl
theorem ok_sl01Byte:p_sl01Byte.Ok PG 75:=mkOk (env_nil PG) k_sl01Byte (by kernel_rfl)
theorem e_sl01Byte (n) (a0):f_sl01Byte n a0 =
 bif decide ((33:Int)<0) then
 none
 else bif decide ((45:Int)<0) then
 none
 else Option.bind (bif decide (a0.2.1<(a0.1.length:Int)) then
 bnd a0.1.length a0.2.1 fun n0=>
 Option.bind a0.1[n0]? fun y1=>
 some (bits .and .i64 (IntKind.wrap .i64 ((bits .and .i64 (bits .xor .i64 (Int.fdiv (IntKind.wrap .i64 ((IntKind.wrap .i64 (a0.2.2*(6364136223846793005:Int)))+(1442695040888963407:Int))) (2 ^ (Nat.min (Int.toNat (33:Int)) (IntKind.bits .i64)))) (Int.fdiv (IntKind.wrap .i64 ((IntKind.wrap .i64 (a0.2.2*(6364136223846793005:Int)))+(1442695040888963407:Int))) (2 ^ (Nat.min (Int.toNat (45:Int)) (IntKind.bits .i64))))) (255:Int))+(IntKind.wrap .i64 (y1)))) (255:Int),(a0.1,IntKind.wrap .i64 (a0.2.1+(1:Int)),IntKind.wrap .i64 ((IntKind.wrap .i64 (a0.2.2*(6364136223846793005:Int)))+(1442695040888963407:Int))))
 else some (bits .and .i64 (bits .xor .i64 (Int.fdiv (IntKind.wrap .i64 ((IntKind.wrap .i64 (a0.2.2*(6364136223846793005:Int)))+(1442695040888963407:Int))) (2 ^ (Nat.min (Int.toNat (33:Int)) (IntKind.bits .i64)))) (Int.fdiv (IntKind.wrap .i64 ((IntKind.wrap .i64 (a0.2.2*(6364136223846793005:Int)))+(1442695040888963407:Int))) (2 ^ (Nat.min (Int.toNat (45:Int)) (IntKind.bits .i64))))) (255:Int),(a0.1,a0.2.1,IntKind.wrap .i64 ((IntKind.wrap .i64 (a0.2.2*(6364136223846793005:Int)))+(1442695040888963407:Int)))):Option (Int × (List (Int) × Int × Int))) fun x2=>
 some (x2.1,x2.2):=by kernel_rfl
def c_sl01Below:TC:=
 (.seq (.rg [o1 4 (kL 0)])
 (.seq (.seq (.rg [oc 9 1,
 o1 10 (.data (.bin .leq) [.t 9,kD 0])])
 (.cond (.t 10)
 (.seq (.rg [o1 4 (kL 0)])
 .ret)
 .skip))
 (.seq (.seq (.rg [oc 11 1,
 o1 12 (.data (.bin .leq) [.t 11,kD 256])])
 (.cond (.t 12)
 (.seq (.rg [o1 13 (.p0),
 ⟨false,[],[],.call 2 75 [.t 0] (.mp 0),[14,0],(some 14),none⟩,
 oc 15 1,
 o1 16 (.data (.bin .rem) [.t 14,.t 15]),
 oc 4 16])
 .ret)
 .skip))
 (.seq (.rg [o1 17 (.p0),
 ⟨false,[],[],.call 2 75 [.t 0] (.mp 0),[18,0],(some 18),none⟩,
 oc 5 18])
 (.seq (.rg [o1 19 (.p0),
 ⟨false,[],[],.call 2 75 [.t 0] (.mp 0),[20,0],(some 20),none⟩,
 oc 6 20])
 (.seq (.rg [o1 21 (.p0),
 ⟨false,[],[],.call 2 75 [.t 0] (.mp 0),[22,0],(some 22),none⟩,
 oc 7 22])
 (.seq (.rg [o1 23 (.p0),
 ⟨false,[],[],.call 2 75 [.t 0] (.mp 0),[24,0],(some 24),none⟩,
 oc 8 24])
 (.seq (.rg [oc 25 5,
 o1 26 (.data (.bin .mul) [.t 25,kD 16777216]),
 oc 27 6,
 o1 28 (.data (.bin .mul) [.t 27,kD 65536]),
 o1 29 (.data (.bin .add) [.t 26,.t 28]),
 oc 30 7,
 o1 31 (.data (.bin .mul) [.t 30,kD 256]),
 o1 32 (.data (.bin .add) [.t 29,.t 31]),
 oc 33 8,
 o1 34 (.data (.bin .add) [.t 32,.t 33]),
 oc 35 1,
 o1 36 (.data (.bin .rem) [.t 34,.t 35]),
 oc 4 36])
 .ret))))))))
def s_sl01Below:Sig:=⟨[.mp [.sl (.ro []) [.d],.d,.d],.rd false [.d]],(.one false [.d])⟩
def E_sl01Below:TEnv:=envOf [(75,p_sl01Byte)]
def f_sl01Below (n:Nat):(List (Int) × Int × Int) × Int->Option ((Int) × List (Int) × Int × Int):=runFn n E_sl01Below c_sl01Below [Ty10,[.i .i64]] [.i .i64] Ty10 [4] (.mp 0)
def g_sl01Below:=f_sl01Below BIG
def p_sl01Below:TSp:=⟨s_sl01Below,[Ty10,[.i .i64]],[.i .i64],Ty10,Ou.j (.mp 0),g_sl01Below⟩
theorem k_sl01Below:chkW PG E_sl01Below 36 s_sl01Below (c_sl01Below.ht 37) (.mp 0)=some (c_sl01Below.wc E_sl01Below,[4]):=by kernel_rfl
theorem ok_sl01Below:p_sl01Below.Ok PG 36:=mkOk (env_cons ok_sl01Byte (env_nil PG)) k_sl01Below (by kernel_rfl)
theorem e_sl01Below (n) (a0) (a1):f_sl01Below n (a0,a1) =
 bif decide (a1<=(0:Int)) then
 some ((0:Int),a0)
 else bif decide (a1<=(256:Int)) then
 Option.bind (g_sl01Byte a0) fun r0=>
 bif decide (a1=0) then
 none
 else some (Int.tmod r0.1 a1,r0.2)
 else Option.bind (g_sl01Byte a0) fun r1=>
 Option.bind (g_sl01Byte r1.2) fun r2=>
 Option.bind (g_sl01Byte r2.2) fun r3=>
 Option.bind (g_sl01Byte r3.2) fun r4=>
 bif decide (a1=0) then
 none
 else some (Int.tmod (IntKind.wrap .i64 ((IntKind.wrap .i64 ((IntKind.wrap .i64 ((IntKind.wrap .i64 (r1.1*(16777216:Int)))+(IntKind.wrap .i64 (r2.1*(65536:Int)))))+(IntKind.wrap .i64 (r3.1*(256:Int)))))+r4.1)) a1,r4.2):=by kernel_rfl
def c_sl09N:TC:=
 (.seq (.rg [o1 2 (kL 0)])
 (.seq (.rg [o1 3 (.p0),
 ⟨false,[],[],.call 2 36 [.t 0,kO 11] (.mp 0),[4,0],(some 4),none⟩,
 o1 5 (.data (.bin .add) [kD 2,.t 4]),
 oc 2 5])
 .ret))
def s_sl09N:Sig:=⟨[.mp [.sl (.ro []) [.d],.d,.d]],(.one false [.d])⟩
def E_sl09N:TEnv:=envOf [(36,p_sl01Below)]
def f_sl09N (n:Nat):(List (Int) × Int × Int)->Option ((Int) × List (Int) × Int × Int):=runFn n E_sl09N c_sl09N [Ty10] [.i .i64] Ty10 [2] (.mp 0)
def g_sl09N:=f_sl09N BIG
def p_sl09N:TSp:=⟨s_sl09N,[Ty10],[.i .i64],Ty10,Ou.j (.mp 0),g_sl09N⟩
theorem k_sl09N:chkW PG E_sl09N 93 s_sl09N (c_sl09N.ht 6) (.mp 0)=some (c_sl09N.wc E_sl09N,[2]):=by kernel_rfl
theorem ok_sl09N:p_sl09N.Ok PG 93:=mkOk (env_cons ok_sl01Below (env_nil PG)) k_sl09N (by kernel_rfl)
theorem e_sl09N (n) (a0):f_sl09N n a0 =
 Option.bind (g_sl01Below (a0,(11:Int))) fun r0=>
 some (IntKind.wrap .i64 ((2:Int)+r0.1),r0.2):=by kernel_rfl
def c_sl01In:TC:=
 (.seq (.rg [o1 6 (.lit [.b] [.bool false])])
 (.seq (.join [⟨6,[.b],false⟩] 32704 none (.rg [oc 7 0,
 oc 8 1,
 o1 9 (.data (.bin .geq) [.t 7,.t 8]),
 oc 10 9,
 o2 11 (.copy 0) 3 true,
 o2 12 (.copy 2) 3 true,
 o2 13 (.data (.bin .leq) [.t 11,.t 12]) 3 true,
 o7 10 (.t 13) (.c (.bool false)) 14,
 oc 6 14]))
 .ret))
def s_sl01In:Sig:=⟨[.rd false [.d],.rd false [.d],.rd false [.d]],(.one false [.d])⟩
def E_sl01In:TEnv:=envOf []
def f_sl01In (n:Nat):Int × Int × Int->Option ((Bool) × Unit):=runFn n E_sl01In c_sl01In [[.i .i64],[.i .i64],[.i .i64]] [.b] [] [6] .no
def g_sl01In:=f_sl01In BIG
def p_sl01In:TSp:=⟨s_sl01In,[[.i .i64],[.i .i64],[.i .i64]],[.b],[],Ou.j .no,g_sl01In⟩
theorem k_sl01In:chkW PG E_sl01In 54 s_sl01In (c_sl01In.ht 15) .no=some (c_sl01In.wc E_sl01In,[6]):=by kernel_rfl
theorem ok_sl01In:p_sl01In.Ok PG 54:=mkOk (env_nil PG) k_sl01In (by kernel_rfl)
theorem e_sl01In (n) (a0) (a1) (a2):f_sl01In n (a0,a1,a2) =
 Option.bind (bif decide (a1<=a0) then
 some (decide (a0<=a2))
 else some false:Option (Bool)) fun x0=>
 some (x0,()):=by kernel_rfl
def c_sWebNew:TC:=
 (.seq (.rg [o5 (.a (.c Ty6 [kV 0,.slice none 0 0])) 2 1000000003,
 o1 3 (.lit [.b] [.bool false])])
 (.seq (.seq (.rg [oc 4 0,
 o3 5 54 [.t 4,kO 1,kO 12],
 o1 6 (.data .not [.t 5])])
 (.cond (.t 6)
 (.seq (.rg [o1 7 (.build Ty6 []),
 o4 2 [2,7] (.store 2 [] 0 .nil (.t 7)),
 o1 3 (.lit [.b] [.bool false])])
 .ret)
 .skip))
 (.seq (.rg [oc 8 0,
 o1 9 (.build Ty6 [(0,.t 8)]),
 o4 2 [2,9] (.store 2 [] 0 .nil (.t 9)),
 o1 3 (.lit [.b] [.bool true])])
 .ret)))
def s_sWebNew:Sig:=⟨[.rd false [.d]],(.tup [(true,2),(false,1)] Ct2)⟩
def E_sWebNew:TEnv:=envOf [(54,p_sl01In)]
def f_sWebNew (n:Nat):Int->Option ((Int × List (Int × Int × Int × Bool) × Bool) × Unit):=runFn n E_sWebNew c_sWebNew [[.i .i64]] Ty5 [] [2,3] .no
def g_sWebNew:=f_sWebNew BIG
def p_sWebNew:TSp:=⟨s_sWebNew,[[.i .i64]],Ty5,[],Ou.j .no,g_sWebNew⟩
theorem k_sWebNew:chkW PG E_sWebNew 103 s_sWebNew (c_sWebNew.ht 10) .no=some (c_sWebNew.wc E_sWebNew,[2,3]):=by kernel_rfl
theorem ok_sWebNew:p_sWebNew.Ok PG 103:=mkOk (env_cons ok_sl01In (env_nil PG)) k_sWebNew (by kernel_rfl)
theorem e_sWebNew (n) (a0):f_sWebNew n a0 =
 Option.bind (g_sl01In (a0,(1:Int),(12:Int))) fun r0=>
 bif !r0.1 then
 some (((0:Int),[],false),())
 else some ((a0,[],true),()):=by kernel_rfl
def c_sShardNew:TC:=
 (.seq (.rg [o5 (.a (.c Ty1 [kV 0,kV 0,.slice none 0 0,kV 0,.bool false,.slice none 0 0,.slice none 0 0])) 4 1000000005,
 o1 5 (.lit [.b] [.bool false])])
 (.seq (.rg [oc 9 1,
 o3 10 103 [.t 9],
 o5 (.copy 10) 8 10,
 o5 (.ext 8 0 2) 11 8,
 o1 12 (.ext 8 2 1),
 o5 (.a (.c Ty6 [kV 0,.slice none 0 0])) 6 1000000007,
 o4 2 [6,11] (.store 6 [] 0 .nil (.t 11)),
 oc 7 12])
 (.seq (.seq (.join [⟨19,[.b],false⟩] 1040384 none (.rg [oc 13 7,
 o1 14 (.data .not [.t 13]),
 oc 15 14,
 o2 16 (.copy 0) 2 false,
 ⟨false,[],[],.call 1 54 [.t 16,kO 1,kO 3] .no,[17],(some 17),some (2,false)⟩,
 o2 18 (.data .not [.t 17]) 2 false,
 o7 15 (.c (.bool true)) (.t 18) 19]))
 (.cond (.t 19)
 (.seq (.rg [o1 20 (.build Ty1 []),
 o4 2 [4,20] (.store 4 [] 0 .nil (.t 20)),
 o1 5 (.lit [.b] [.bool false])])
 .ret)
 .skip))
 (.seq (.rg [oc 21 0,
 o1 22 (.load 6 [] 0 .nil 2 true),
 ⟨false,[22],[],.det 2 (.build Ty1 [(0,.t 21),(1,.t 22)]),[23,22,22,6],(some 23),none⟩,
 o4 2 [4,23] (.store 4 [] 0 .nil (.t 23)),
 o1 5 (.lit [.b] [.bool true])])
 .ret))))
def s_sShardNew:Sig:=⟨[.rd false [.d],.rd false [.d]],(.tup [(true,7),(false,1)] [.d,.d,.sl (.own none) [.d,.d,.d,.d],.d,.d,.sl (.own none) [.d,.d],.sl (.own none) [.d],.d])⟩
def E_sShardNew:TEnv:=envOf [(103,p_sWebNew),(54,p_sl01In)]
def f_sShardNew (n:Nat):Int × Int->Option ((Int × Int × List (Int × Int × Int × Bool) × Int × Bool × List (Int × Int) × List (Int) × Bool) × Unit):=runFn n E_sShardNew c_sShardNew [[.i .i64],[.i .i64]] [.i .i64,.i .i64,.sl Ty11,.i .i64,.b,.sl [.i .i64,.i .i64],.sl [.i .i64],.b] [] [4,5] .no
def g_sShardNew:=f_sShardNew BIG
def p_sShardNew:TSp:=⟨s_sShardNew,[[.i .i64],[.i .i64]],[.i .i64,.i .i64,.sl Ty11,.i .i64,.b,.sl [.i .i64,.i .i64],.sl [.i .i64],.b],[],Ou.j .no,g_sShardNew⟩
theorem k_sShardNew:chkW PG E_sShardNew 92 s_sShardNew (c_sShardNew.ht 24) .no=some (c_sShardNew.wc E_sShardNew,[4,5]):=by kernel_rfl
theorem ok_sShardNew:p_sShardNew.Ok PG 92:=mkOk (env_cons ok_sWebNew (env_cons ok_sl01In (env_nil PG))) k_sShardNew (by kernel_rfl)
theorem e_sShardNew (n) (a0) (a1):f_sShardNew n (a0,a1) =
 Option.bind (g_sWebNew a1) fun r0=>
 Option.bind (bif !r0.1.2.2 then
 some true
 else Option.bind (g_sl01In (a0,(1:Int),(3:Int))) fun r1=>
 some !r1.1:Option (Bool)) fun x2=>
 bif x2 then
 some (((0:Int),(0:Int),[],(0:Int),false,[],[],false),())
 else some ((a0,r0.1.1,r0.1.2.1,(0:Int),false,[],[],true),()):=by kernel_rfl
def c_sl08Size:TC:=
 (.seq (.rg [o1 2 (kL 0)])
 (.seq (.rg [oc 4 0,
 o1 5 (.len 4),
 o1 6 (.data (.bin .quo) [.t 5,kD 4]),
 o1 7 (.data (.bin .add) [kD 12,.t 6]),
 oc 3 7])
 (.seq (.seq (.rg [oc 8 3,
 o1 9 (.data (.bin .gtr) [.t 8,kD 60])])
 (.cond (.t 9)
 (.seq (.rg [o1 2 (kL 60)])
 .ret)
 .skip))
 (.seq (.rg [oc 10 3,
 oc 2 10])
 .ret))))
def s_sl08Size:Sig:=⟨[.rd false Ct7],(.one false [.d])⟩
def E_sl08Size:TEnv:=envOf []
def f_sl08Size (n:Nat):List (Int)->Option ((Int) × Unit):=runFn n E_sl08Size c_sl08Size [[.sl [.i .u8]]] [.i .i64] [] [2] .no
def g_sl08Size:=f_sl08Size BIG
def p_sl08Size:TSp:=⟨s_sl08Size,[[.sl [.i .u8]]],[.i .i64],[],Ou.j .no,g_sl08Size⟩
theorem k_sl08Size:chkW PG E_sl08Size 77 s_sl08Size (c_sl08Size.ht 11) .no=some (c_sl08Size.wc E_sl08Size,[2]):=by kernel_rfl
theorem ok_sl08Size:p_sl08Size.Ok PG 77:=mkOk (env_nil PG) k_sl08Size (by kernel_rfl)
theorem e_sl08Size (n) (a0):f_sl08Size n a0 =
 bif decide ((4:Int)=0) then
 none
 else bif decide ((60:Int)<(IntKind.wrap .i64 ((12:Int)+(IntKind.wrap .i64 (Int.tdiv (a0.length:Int) (4:Int)))))) then
 some ((60:Int),())
 else some (IntKind.wrap .i64 ((12:Int)+(IntKind.wrap .i64 (Int.tdiv (a0.length:Int) (4:Int)))),()):=by kernel_rfl
def c_sl01PickInt:TC:=
 (.seq (.rg [o1 4 (kL 0)])
 (.seq (.rg [oc 5 1,
 o1 6 (.p0),
 oc 7 1,
 o1 8 (.len 7),
 ⟨false,[],[],.call 2 36 [.t 0,.t 8] (.mp 0),[9,0],(some 9),none⟩,
 o1 10 (.index 5 (.t 9)),
 o1 11 (.load 5 [(0,1)] 0 (.t 10) 1 false),
 oc 4 11])
 .ret))
def s_sl01PickInt:Sig:=⟨[.mp [.sl (.ro []) [.d],.d,.d],.rd false Ct7],(.one false [.d])⟩
def E_sl01PickInt:TEnv:=envOf [(36,p_sl01Below)]
def f_sl01PickInt (n:Nat):(List (Int) × Int × Int) × List (Int)->Option ((Int) × List (Int) × Int × Int):=runFn n E_sl01PickInt c_sl01PickInt [Ty10,[.sl [.i .i64]]] [.i .i64] Ty10 [4] (.mp 0)
def g_sl01PickInt:=f_sl01PickInt BIG
def p_sl01PickInt:TSp:=⟨s_sl01PickInt,[Ty10,[.sl [.i .i64]]],[.i .i64],Ty10,Ou.j (.mp 0),g_sl01PickInt⟩
theorem k_sl01PickInt:chkW PG E_sl01PickInt 94 s_sl01PickInt (c_sl01PickInt.ht 12) (.mp 0)=some (c_sl01PickInt.wc E_sl01PickInt,[4]):=by kernel_rfl
theorem ok_sl01PickInt:p_sl01PickInt.Ok PG 94:=mkOk (env_cons ok_sl01Below (env_nil PG)) k_sl01PickInt (by kernel_rfl)
theorem e_sl01PickInt (n) (a0) (a1):f_sl01PickInt n (a0,a1) =
 Option.bind (g_sl01Below (a0,(a1.length:Int))) fun r0=>
 bnd a1.length r0.1 fun n1=>
 Option.bind a1[n1]? fun y2=>
 some (y2,r0.2):=by kernel_rfl
def c_sl05Edge:TC:=
 (.seq (.rg [o5 (.a (.c [.i .i64,.i .i64] [kV 0,kV 0])) 4 1000000005])
 (.seq (.rg [o1 7 (.p0),
 oc 8 1,
 ⟨false,[],[],.call 2 36 [.t 0,.t 8] (.mp 0),[9,0],(some 9),none⟩,
 oc 5 9])
 (.seq (.rg [o1 10 (.p0),
 oc 11 1,
 ⟨false,[],[],.call 2 36 [.t 0,.t 11] (.mp 0),[12,0],(some 12),none⟩,
 oc 6 12])
 (.seq (.join [⟨6,[.i .i64],false⟩] 1040448 none (.seq (.rg [oc 13 5,
 oc 14 6,
 o1 15 (.data (.bin .eql) [.t 13,.t 14])])
 (.cond (.t 15)
 (.rg [oc 16 5,
 o1 17 (.data (.bin .add) [.t 16,kD 1]),
 oc 18 1,
 o1 19 (.data (.bin .rem) [.t 17,.t 18]),
 oc 6 19])
 .skip)))
 (.seq (.seq (.rg [oc 20 5,
 oc 21 6,
 o1 22 (.data (.bin .gtr) [.t 20,.t 21])])
 (.cond (.t 22)
 (.seq (.rg [oc 23 6,
 oc 24 5,
 o1 25 (.build [.i .i64,.i .i64] [(0,.t 23),(1,.t 24)]),
 o4 1 [4] (.store 4 [] 0 .nil (.t 25))])
 .ret)
 .skip))
 (.seq (.rg [oc 26 5,
 oc 27 6,
 o1 28 (.build [.i .i64,.i .i64] [(0,.t 26),(1,.t 27)]),
 o4 1 [4] (.store 4 [] 0 .nil (.t 28))])
 .ret))))))
def s_sl05Edge:Sig:=⟨[.mp [.sl (.ro []) [.d],.d,.d],.rd false [.d]],(.one true [.d,.d])⟩
def E_sl05Edge:TEnv:=envOf [(36,p_sl01Below)]
def f_sl05Edge (n:Nat):(List (Int) × Int × Int) × Int->Option ((Int × Int) × List (Int) × Int × Int):=runFn n E_sl05Edge c_sl05Edge [Ty10,[.i .i64]] [.i .i64,.i .i64] Ty10 [4] (.mp 0)
def g_sl05Edge:=f_sl05Edge BIG
def p_sl05Edge:TSp:=⟨s_sl05Edge,[Ty10,[.i .i64]],[.i .i64,.i .i64],Ty10,Ou.j (.mp 0),g_sl05Edge⟩
theorem k_sl05Edge:chkW PG E_sl05Edge 37 s_sl05Edge (c_sl05Edge.ht 29) (.mp 0)=some (c_sl05Edge.wc E_sl05Edge,[4]):=by kernel_rfl
theorem ok_sl05Edge:p_sl05Edge.Ok PG 37:=mkOk (env_cons ok_sl01Below (env_nil PG)) k_sl05Edge (by kernel_rfl)
theorem e_sl05Edge (n) (a0) (a1):f_sl05Edge n (a0,a1) =
 Option.bind (g_sl01Below (a0,a1)) fun r0=>
 Option.bind (g_sl01Below (r0.2,a1)) fun r1=>
 Option.bind (bif decide (r0.1=r1.1) then
 bif decide (a1=0) then
 none
 else some (Int.tmod (IntKind.wrap .i64 (r0.1+(1:Int))) a1)
 else some r1.1:Option (Int)) fun x2=>
 bif decide (x2<r0.1) then
 some ((x2,r0.1),r1.2)
 else some ((r0.1,x2),r1.2):=by kernel_rfl
def c_sl05Has:TC:=
 (.seq (.rg [o1 3 (.a (.t 1)),
 o1 4 (.lit [.b] [.bool false])])
 (.seq (.join [] 262128 (some [⟨4,[.b],false⟩]) (.seq (.rg [o1 5 (kL 0)])
 (.block 0 (.loop [⟨5,[.i .i64],false⟩] 262128
 (.seq (.seq (.rg [oc 6 5,
 oc 7 0,
 o1 8 (.len 7),
 o1 9 (.data (.bin .lss) [.t 6,.t 8])])
 (.cond (.t 9)
 .skip
 (.exit 0)))
 (.seq (.block 1 (.seq (.rg [oc 12 0,
 oc 13 5,
 o1 14 (.index 12 (.t 13)),
 o1 15 (.load 12 [(0,2)] 0 (.t 14) 2 false),
 o1 16 (.load 3 [] 0 .nil 2 false),
 o1 17 (.eqA [.i,.i] (.t 15) (.t 16) false)])
 (.cond (.t 17)
 (.seq (.rg [o1 4 (.lit [.b] [.bool true])])
 .ret)
 .skip)))
 (.rg [oc 10 5,
 o1 11 (.data (.bin .add) [.t 10,kD 1]),
 oc 5 11])))))))
 (.seq (.rg [o1 4 (.lit [.b] [.bool false])])
 .ret)))
def s_sl05Has:Sig:=⟨[.rd false Ct6,.rd true [.d,.d]],(.one false [.d])⟩
def E_sl05Has:TEnv:=envOf []
def f_sl05Has (n:Nat):(List (Int × Int)) × (Int × Int)->Option ((Bool) × Unit):=runFn n E_sl05Has c_sl05Has [[.sl [.i .i64,.i .i64]],[.i .i64,.i .i64]] [.b] [] [4] .no
def g_sl05Has:=f_sl05Has BIG
def p_sl05Has:TSp:=⟨s_sl05Has,[[.sl [.i .i64,.i .i64]],[.i .i64,.i .i64]],[.b],[],Ou.j .no,g_sl05Has⟩
theorem k_sl05Has:chkW PG E_sl05Has 38 s_sl05Has (c_sl05Has.ht 18) .no=some (c_sl05Has.wc E_sl05Has,[4]):=by kernel_rfl
theorem ok_sl05Has:p_sl05Has.Ok PG 38:=mkOk (env_nil PG) k_sl05Has (by kernel_rfl)
theorem e_sl05Has (n) (a0) (a1):f_sl05Has n (a0,a1) =
 Option.bind (loopT n (X:=Int) (B:=(Unit) ⊕ (Bool)) (fun self1 x0=>
  bif decide (x0<(a0.length:Int)) then
   bnd a0.length x0 fun n2=>
   Option.bind a0[n2]? fun y3=>
   bif (decide (y3.1=a1.1)&&(decide (y3.2=a1.2)&&true)) then
    some (Sum.inr true)
   else self1 (IntKind.wrap .i64 (x0+(1:Int)))
  else some (Sum.inl ())) (0:Int):Option ((Unit) ⊕ (Bool))) fun y=>match y with
 | .inl x4=>
  some (false,())
 | .inr x4=>
  some (x4,()):=by kernel_rfl
def c_sl05Less:TC:=
 (.seq (.rg [o1 2 (.a (.t 0)),
 o1 3 (.a (.t 1)),
 o1 4 (.lit [.b] [.bool false])])
 (.seq (.join [⟨4,[.b],false⟩] 16777200 none (.rg [oi 5,
 o1 6 (.load 2 [] 0 (.t 5) 1 false),
 oi 7,
 o1 8 (.load 3 [] 0 (.t 7) 1 false),
 o1 9 (.data (.bin .lss) [.t 6,.t 8]),
 oc 10 9,
 o2 11 (.idx .nil) 5 false,
 o2 12 (.load 2 [] 0 (.t 11) 1 false) 5 false,
 o2 13 (.idx .nil) 5 false,
 o2 14 (.load 3 [] 0 (.t 13) 1 false) 5 false,
 o2 15 (.data (.bin .eql) [.t 12,.t 14]) 5 false,
 o2 16 (.copy 15) 5 false,
 o2 17 (.idx .nil) 11 true,
 o2 18 (.load 2 [] 1 (.t 17) 1 false) 11 true,
 o2 19 (.idx .nil) 11 true,
 o2 20 (.load 3 [] 1 (.t 19) 1 false) 11 true,
 o2 21 (.data (.bin .lss) [.t 18,.t 20]) 11 true,
 ⟨false,[],[],.pick 16 (.t 21) (.c (.bool false)),[22],(some 22),some (5,false)⟩,
 o7 10 (.c (.bool true)) (.t 22) 23,
 oc 4 23]))
 .ret))
def s_sl05Less:Sig:=⟨[.rd true [.d,.d],.rd true [.d,.d]],(.one false [.d])⟩
def E_sl05Less:TEnv:=envOf []
def f_sl05Less (n:Nat):(Int × Int) × (Int × Int)->Option ((Bool) × Unit):=runFn n E_sl05Less c_sl05Less [[.i .i64,.i .i64],[.i .i64,.i .i64]] [.b] [] [4] .no
def g_sl05Less:=f_sl05Less BIG
def p_sl05Less:TSp:=⟨s_sl05Less,[[.i .i64,.i .i64],[.i .i64,.i .i64]],[.b],[],Ou.j .no,g_sl05Less⟩
theorem k_sl05Less:chkW PG E_sl05Less 86 s_sl05Less (c_sl05Less.ht 24) .no=some (c_sl05Less.wc E_sl05Less,[4]):=by kernel_rfl
theorem ok_sl05Less:p_sl05Less.Ok PG 86:=mkOk (env_nil PG) k_sl05Less (by kernel_rfl)
theorem e_sl05Less (n) (a0) (a1):f_sl05Less n (a0,a1) =
 Option.bind (bif decide (a0.1<a1.1) then
 some true
 else bif decide (a0.1=a1.1) then
 some (decide (a0.2<a1.2))
 else some false:Option (Bool)) fun x0=>
 some (x0,()):=by kernel_rfl
def c_sl05Put:TC:=
 (.seq (.rg [o1 3 (.a (.t 1)),
 o1 4 (.lit [.sl [.i .i64,.i .i64]] [.slice none 0 0])])
 (.seq (.rg [o1 8 (.sli [.i .i64,.i .i64] []),
 o5 (.copy 8) 5 8])
 (.seq (.join [⟨5,[.sl [.i .i64,.i .i64]],false⟩] 268435040 none (.seq (.rg [o1 6 (kL 0)])
 (.block 0 (.loop [⟨5,[.sl [.i .i64,.i .i64]],false⟩,⟨6,[.i .i64],false⟩] 268435040
 (.seq (.seq (.rg [oc 9 6,
 oc 10 0,
 o1 11 (.len 10),
 o1 12 (.data (.bin .lss) [.t 9,.t 11])])
 (.cond (.t 12)
 .skip
 (.exit 0)))
 (.seq (.join [⟨5,[.sl [.i .i64,.i .i64]],false⟩] 268402720 none (.block 1 (.seq (.rg [oc 15 0,
 oc 16 6,
 o1 17 (.index 15 (.t 16)),
 o1 18 (.load 15 [(0,2)] 0 (.t 17) 2 false),
 o1 19 (.load 3 [] 0 .nil 2 false),
 o3 20 86 [.t 18,.t 19]])
 (.cond (.t 20)
 (.rg [o5 (.copy 5) 21 5,
 oc 22 0,
 oc 23 6,
 o1 24 (.index 22 (.t 23)),
 o1 25 (.load 22 [(0,2)] 0 (.t 24) 2 false),
 o1 26 (.sli [.i .i64,.i .i64] [.t 25]),
 o5 (.app (some 21) 26) 27 21,
 o5 (.copy 27) 5 27])
 .skip))))
 (.rg [oc 13 6,
 o1 14 (.data (.bin .add) [.t 13,kD 1]),
 oc 6 14])))))))
 (.seq (.rg [o5 (.copy 5) 28 5,
 o1 29 (.load 3 [] 0 .nil 2 false),
 o1 30 (.sli [.i .i64,.i .i64] [.t 29]),
 o5 (.app (some 28) 30) 31 28,
 o5 (.copy 31) 5 31])
 (.seq (.join [⟨5,[.sl [.i .i64,.i .i64]],false⟩] 2251795518718112 none (.seq (.rg [o1 7 (kL 0)])
 (.block 2 (.loop [⟨5,[.sl [.i .i64,.i .i64]],false⟩,⟨7,[.i .i64],false⟩] 2251795518718112
 (.seq (.seq (.rg [oc 32 7,
 oc 33 0,
 o1 34 (.len 33),
 o1 35 (.data (.bin .lss) [.t 32,.t 34])])
 (.cond (.t 35)
 .skip
 (.exit 2)))
 (.seq (.join [⟨5,[.sl [.i .i64,.i .i64]],false⟩] 2251524935778336 none (.block 3 (.seq (.rg [oc 39 0,
 oc 40 7,
 o1 38 (.load 3 [] 0 .nil 2 false),
 o1 41 (.index 39 (.t 40)),
 o1 42 (.load 39 [(0,2)] 0 (.t 41) 2 false),
 o3 43 86 [.t 38,.t 42]])
 (.cond (.t 43)
 (.rg [o5 (.copy 5) 44 5,
 oc 45 0,
 oc 46 7,
 o1 47 (.index 45 (.t 46)),
 o1 48 (.load 45 [(0,2)] 0 (.t 47) 2 false),
 o1 49 (.sli [.i .i64,.i .i64] [.t 48]),
 o5 (.app (some 44) 49) 50 44,
 o5 (.copy 50) 5 50])
 .skip))))
 (.rg [oc 36 7,
 o1 37 (.data (.bin .add) [.t 36,kD 1]),
 oc 7 37])))))))
 (.seq (.rg [o5 (.copy 5) 51 5,
 o5 (.copy 51) 4 51])
 .ret))))))
def s_sl05Put:Sig:=⟨[.rd false Ct6,.rd true [.d,.d]],(.one false Ct6)⟩
def E_sl05Put:TEnv:=envOf [(86,p_sl05Less)]
def f_sl05Put (n:Nat):(List (Int × Int)) × (Int × Int)->Option ((List (Int × Int)) × Unit):=runFn n E_sl05Put c_sl05Put [[.sl [.i .i64,.i .i64]],[.i .i64,.i .i64]] [.sl [.i .i64,.i .i64]] [] [4] .no
def g_sl05Put:=f_sl05Put BIG
def p_sl05Put:TSp:=⟨s_sl05Put,[[.sl [.i .i64,.i .i64]],[.i .i64,.i .i64]],[.sl [.i .i64,.i .i64]],[],Ou.j .no,g_sl05Put⟩
theorem k_sl05Put:chkW PG E_sl05Put 48 s_sl05Put (c_sl05Put.ht 52) .no=some (c_sl05Put.wc E_sl05Put,[4]):=by kernel_rfl
theorem ok_sl05Put:p_sl05Put.Ok PG 48:=mkOk (env_cons ok_sl05Less (env_nil PG)) k_sl05Put (by kernel_rfl)
theorem e_sl05Put (n) (a0) (a1):f_sl05Put n (a0,a1) =
 Option.bind (loopT n (X:=(List (Int × Int)) × Int) (B:=(List (Int × Int))) (fun self1 x0=>
 bif decide (x0.2<(a0.length:Int)) then
 Option.bind (bnd a0.length x0.2 fun n2=>
 Option.bind a0[n2]? fun y3=>
 Option.bind (g_sl05Less (y3,a1)) fun r4=>
 bif r4.1 then
 bnd a0.length x0.2 fun n5=>
 Option.bind a0[n5]? fun y6=>
 bif decide (x0.1.length+[y6].length<=4294967296) then
 some (x0.1++[y6])
 else none
 else some x0.1:Option ((List (Int × Int)))) fun x7=>
 self1 (x7,IntKind.wrap .i64 (x0.2+(1:Int)))
 else some x0.1) ([],(0:Int)):Option ((List (Int × Int)))) fun x8=>
 bif decide (x8.length+[a1].length<=4294967296) then
 Option.bind (loopT n (X:=(List (Int × Int)) × Int) (B:=(List (Int × Int))) (fun self10 x9=>
 bif decide (x9.2<(a0.length:Int)) then
 Option.bind (bnd a0.length x9.2 fun n11=>
 Option.bind a0[n11]? fun y12=>
 Option.bind (g_sl05Less (a1,y12)) fun r13=>
 bif r13.1 then
 bnd a0.length x9.2 fun n14=>
 Option.bind a0[n14]? fun y15=>
 bif decide (x9.1.length+[y15].length<=4294967296) then
 some (x9.1++[y15])
 else none
 else some x9.1:Option ((List (Int × Int)))) fun x16=>
 self10 (x16,IntKind.wrap .i64 (x9.2+(1:Int)))
 else some x9.1) (x8++[a1],(0:Int)):Option ((List (Int × Int)))) fun x17=>
 some (x17,())
 else none:=by kernel_rfl
def c_sl09Order:TC:=
 (.seq (.rg [o5 (.a (.c Ty4 [kV 0,kV 0,.slice none 0 0,kV 0])) 4 1000000005])
 (.seq (.rg [o1 8 (.p0),
 ⟨false,[],[],.call 2 36 [.t 0,kO 9] (.mp 0),[9,0],(some 9),none⟩,
 o1 10 (.data (.bin .add) [kD 1,.t 9]),
 o1 11 (.p0),
 ⟨false,[],[],.det 8 (.sli [.i .i64] [kO 1,kO 1,kO 1,kO 2,kO 2,kO 3,kO 4]),[12,1000000001,1000000002,1000000003,1000000004,1000000005,1000000006,1000000007],(some 12),none⟩,
 ⟨false,[],[],.call 2 94 [.t 0,.t 12] (.mp 0),[13,0],(some 13),none⟩,
 o1 14 (.build Ty4 [(0,.t 10),(1,.t 13)]),
 o5 (.a (.c Ty4 [kV 0,kV 0,.slice none 0 0,kV 0])) 5 1000000006,
 o4 2 [5,14] (.store 5 [] 0 .nil (.t 14))])
 (.seq (.join [⟨0,Ty10,false⟩,⟨5,Ty4,false⟩] 1125899906810081 none (.seq (.rg [oi 15,
 o1 16 (.load 5 [] 1 (.t 15) 1 false)])
 (.block 0 (.seq (.rg [o1 23 (.data (.bin .eql) [.t 16,kD 3]),
 oc 22 23])
 (.cond (.t 22)
 (.rg [o1 24 (.p0),
 oc 25 1,
 ⟨false,[],[],.call 2 36 [.t 0,.t 25] (.mp 0),[26,0],(some 26),none⟩,
 oi 27,
 o4 1 [5] (.store 5 [] 3 (.t 27) (.t 26))])
 (.seq (.rg [o1 29 (.data (.bin .eql) [.t 16,kD 4]),
 oc 28 29])
 (.cond (.t 28)
 (.seq (.rg [o1 6 (kL 0)])
 (.block 1 (.loop [⟨0,Ty10,false⟩,⟨5,Ty4,false⟩,⟨6,[.i .i64],false⟩] 1125898833101025
 (.seq (.seq (.rg [oc 30 6,
 o1 31 (.p0),
 ⟨false,[],[],.call 2 36 [.t 0,kO 4] (.mp 0),[32,0],(some 32),none⟩,
 o1 33 (.data (.bin .add) [kD 1,.t 32]),
 o1 34 (.data (.bin .lss) [.t 30,.t 33])])
 (.cond (.t 34)
 .skip
 (.exit 1)))
 (.seq (.join [⟨0,Ty10,false⟩,⟨5,Ty4,false⟩] 1125762467889313 none (.block 2 (.seq (.rg [o1 37 (.p0),
 oc 38 1,
 ⟨false,[],[],.call 2 37 [.t 0,.t 38] (.mp 0),[39,0],(some 39),none⟩,
 o5 (.a (.c [.i .i64,.i .i64] [kV 0,kV 0])) 7 1000000008,
 o4 1 [7] (.store 7 [] 0 .nil (.t 39))])
 (.seq (.rg [oi 40,
 o1 41 (.load 5 [] 2 (.t 40) 1 true),
 o1 42 (.load 7 [] 0 .nil 2 false),
 o3 43 38 [.t 41,.t 42],
 o1 44 (.data .not [.t 43])])
 (.cond (.t 44)
 (.rg [oi 45,
 o1 46 (.load 5 [] 2 (.t 45) 1 true),
 o1 47 (.load 7 [] 0 .nil 2 false),
 o3 48 48 [.t 46,.t 47],
 oi 49,
 o4 2 [5,48,41,46] (.store 5 [] 2 (.t 49) (.t 48))])
 .skip)))))
 (.rg [oc 35 6,
 o1 36 (.data (.bin .add) [.t 35,kD 1]),
 oc 6 36]))))))
 (.rg [o1 17 (.p0),
 oc 18 1,
 ⟨false,[],[],.call 2 37 [.t 0,.t 18] (.mp 0),[19,0],(some 19),none⟩,
 o1 20 (.sli [.i .i64,.i .i64] [.t 19]),
 oi 21,
 o4 2 [5,20] (.store 5 [] 2 (.t 21) (.t 20))]))))))))
 (.seq (.rg [o1 50 (.load 5 [] 0 .nil 4 true),
 ⟨false,[50],[],.det 2 (.store 4 [] 0 .nil (.t 50)),[4,50,50,5],none,none⟩])
 .ret))))
def s_sl09Order:Sig:=⟨[.mp [.sl (.ro []) [.d],.d,.d],.rd false [.d]],(.one true Ct3)⟩
def E_sl09Order:TEnv:=envOf [(36,p_sl01Below),(94,p_sl01PickInt),(37,p_sl05Edge),(38,p_sl05Has),(48,p_sl05Put)]
def f_sl09Order (n:Nat):(List (Int) × Int × Int) × Int->Option ((Int × Int × List (Int × Int) × Int) × List (Int) × Int × Int):=runFn n E_sl09Order c_sl09Order [Ty10,[.i .i64]] Ty4 Ty10 [4] (.mp 0)
def g_sl09Order:=f_sl09Order BIG
def p_sl09Order:TSp:=⟨s_sl09Order,[Ty10,[.i .i64]],Ty4,Ty10,Ou.j (.mp 0),g_sl09Order⟩
theorem k_sl09Order:chkW PG E_sl09Order 60 s_sl09Order (c_sl09Order.ht 51) (.mp 0)=some (c_sl09Order.wc E_sl09Order,[4]):=by kernel_rfl
theorem ok_sl09Order:p_sl09Order.Ok PG 60:=mkOk (env_cons ok_sl01Below (env_cons ok_sl01PickInt (env_cons ok_sl05Edge (env_cons ok_sl05Has (env_cons ok_sl05Put (env_nil PG)))))) k_sl09Order (by kernel_rfl)
theorem e_sl09Order (n) (a0) (a1):f_sl09Order n (a0,a1) =
 Option.bind (g_sl01Below (a0,(9:Int))) fun r0=>
 Option.bind (g_sl01PickInt (r0.2,[(1:Int),(1:Int),(1:Int),(2:Int),(2:Int),(3:Int),(4:Int)])) fun r1=>
 Option.bind (bif decide (r1.1=(3:Int)) then
 Option.bind (g_sl01Below (r1.2,a1)) fun r2=>
 some (r2.2,(IntKind.wrap .i64 ((1:Int)+r0.1),r1.1,[],r2.1))
 else bif decide (r1.1=(4:Int)) then
 loopT n (X:=(List (Int) × Int × Int) × (Int × Int × List (Int × Int) × Int) × Int) (B:=(List (Int) × Int × Int) × (Int × Int × List (Int × Int) × Int)) (fun self4 x3=>
 Option.bind (g_sl01Below (x3.1,(4:Int))) fun r5=>
 bif decide (x3.2.2<(IntKind.wrap .i64 ((1:Int)+r5.1))) then
 Option.bind (Option.bind (g_sl05Edge (r5.2,a1)) fun r6=>
 Option.bind (g_sl05Has (x3.2.1.2.2.1,r6.1)) fun r7=>
 bif !r7.1 then
 Option.bind (g_sl05Put (x3.2.1.2.2.1,r6.1)) fun r8=>
 some (r6.2,(x3.2.1.1,x3.2.1.2.1,r8.1,x3.2.1.2.2.2))
 else some (r6.2,x3.2.1):Option ((List (Int) × Int × Int) × (Int × Int × List (Int × Int) × Int))) fun x9=>
 self4 (x9.1,x9.2,IntKind.wrap .i64 (x3.2.2+(1:Int)))
 else some (r5.2,x3.2.1)) (r1.2,(IntKind.wrap .i64 ((1:Int)+r0.1),r1.1,[],(0:Int)),(0:Int))
 else Option.bind (g_sl05Edge (r1.2,a1)) fun r10=>
 some (r10.2,(IntKind.wrap .i64 ((1:Int)+r0.1),r1.1,[r10.1],(0:Int))):Option ((List (Int) × Int × Int) × (Int × Int × List (Int × Int) × Int))) fun x11=>
 some (x11.2,x11.1):=by kernel_rfl
def c_sl01Once:TC:=
 (.seq (.rg [o1 4 (.lit [.b] [.bool false])])
 (.seq (.rg [o1 5 (.p0),
 oc 6 1,
 ⟨false,[],[],.call 2 36 [.t 0,.t 6] (.mp 0),[7,0],(some 7),none⟩,
 o1 8 (.data (.bin .eql) [.t 7,kD 0]),
 oc 4 8])
 .ret))
def s_sl01Once:Sig:=⟨[.mp [.sl (.ro []) [.d],.d,.d],.rd false [.d]],(.one false [.d])⟩
def E_sl01Once:TEnv:=envOf [(36,p_sl01Below)]
def f_sl01Once (n:Nat):(List (Int) × Int × Int) × Int->Option ((Bool) × List (Int) × Int × Int):=runFn n E_sl01Once c_sl01Once [Ty10,[.i .i64]] [.b] Ty10 [4] (.mp 0)
def g_sl01Once:=f_sl01Once BIG
def p_sl01Once:TSp:=⟨s_sl01Once,[Ty10,[.i .i64]],[.b],Ty10,Ou.j (.mp 0),g_sl01Once⟩
theorem k_sl01Once:chkW PG E_sl01Once 35 s_sl01Once (c_sl01Once.ht 9) (.mp 0)=some (c_sl01Once.wc E_sl01Once,[4]):=by kernel_rfl
theorem ok_sl01Once:p_sl01Once.Ok PG 35:=mkOk (env_cons ok_sl01Below (env_nil PG)) k_sl01Once (by kernel_rfl)
theorem e_sl01Once (n) (a0) (a1):f_sl01Once n (a0,a1) =
 Option.bind (g_sl01Below (a0,a1)) fun r0=>
 some (decide (r0.1=(0:Int)),r0.2):=by kernel_rfl
def c_sGraphOf:TC:=
 (.seq (.rg [o1 1 (.a (.t 0)),
 o5 (.a (.c Ty9 [kV 0,.slice none 0 0])) 2 1000000003])
 (.seq (.rg [oi 5,
 o1 6 (.load 1 [] 0 (.t 5) 1 false),
 o1 7 (.build Ty9 [(0,.t 6)]),
 o5 (.a (.c Ty9 [kV 0,.slice none 0 0])) 3 1000000004,
 o4 2 [3,7] (.store 3 [] 0 .nil (.t 7))])
 (.seq (.join [⟨3,Ty9,false⟩] 8589934360 none (.seq (.rg [o1 4 (kL 0)])
 (.block 0 (.loop [⟨3,Ty9,false⟩,⟨4,[.i .i64],false⟩] 8589934360
 (.seq (.seq (.rg [oc 8 4,
 oi 9,
 o1 10 (.load 1 [] 1 (.t 9) 1 false),
 o1 11 (.len 10),
 o1 12 (.data (.bin .lss) [.t 8,.t 11])])
 (.cond (.t 12)
 .skip
 (.exit 0)))
 (.seq (.block 1 (.rg [oc 19 4,
 oc 25 4,
 oi 15,
 o1 16 (.load 3 [] 1 (.t 15) 1 true),
 oi 17,
 o1 18 (.load 1 [] 1 (.t 17) 1 false),
 o1 20 (.index 18 (.t 19)),
 o1 21 (.idx (.t 20)),
 o1 22 (.load 18 [(0,4)] 0 (.t 21) 1 false),
 oi 23,
 o1 24 (.load 1 [] 1 (.t 23) 1 false),
 o1 26 (.index 24 (.t 25)),
 o1 27 (.idx (.t 26)),
 o1 28 (.load 24 [(0,4)] 1 (.t 27) 1 false),
 o1 29 (.build [.i .i64,.i .i64] [(0,.t 22),(1,.t 28)]),
 o1 30 (.sli [.i .i64,.i .i64] [.t 29]),
 ⟨false,[16],[],.det 2 (.app (some 16) 30),[31,16,16,3],(some 31),none⟩,
 oi 32,
 o4 2 [3,31,16] (.store 3 [] 1 (.t 32) (.t 31))]))
 (.rg [oc 13 4,
 o1 14 (.data (.bin .add) [.t 13,kD 1]),
 oc 4 14])))))))
 (.seq (.rg [o1 33 (.load 3 [] 0 .nil 2 true),
 ⟨false,[33],[],.det 2 (.store 2 [] 0 .nil (.t 33)),[2,33,33,3],none,none⟩])
 .ret))))
def s_sGraphOf:Sig:=⟨[.rd true Ct4],(.one true Ct5)⟩
def E_sGraphOf:TEnv:=envOf []
def f_sGraphOf (n:Nat):(Int × List (Int × Int × Int × Bool))->Option ((Int × List (Int × Int)) × Unit):=runFn n E_sGraphOf c_sGraphOf [Ty6] Ty9 [] [2] .no
def g_sGraphOf:=f_sGraphOf BIG
def p_sGraphOf:TSp:=⟨s_sGraphOf,[Ty6],Ty9,[],Ou.j .no,g_sGraphOf⟩
theorem k_sGraphOf:chkW PG E_sGraphOf 32 s_sGraphOf (c_sGraphOf.ht 34) .no=some (c_sGraphOf.wc E_sGraphOf,[2]):=by kernel_rfl
theorem ok_sGraphOf:p_sGraphOf.Ok PG 32:=mkOk (env_nil PG) k_sGraphOf (by kernel_rfl)
theorem e_sGraphOf (n) (a0):f_sGraphOf n a0 =
 Option.bind (loopT n (X:=(Int × List (Int × Int)) × Int) (B:=(Int × List (Int × Int))) (fun self1 x0=>
 bif decide (x0.2<(a0.2.length:Int)) then
 bnd a0.2.length x0.2 fun n2=>
 Option.bind a0.2[n2]? fun y3=>
 bnd a0.2.length x0.2 fun n4=>
 Option.bind a0.2[n4]? fun y5=>
 bif decide (x0.1.2.length+([(y3.1,y5.2.1)]).length<=4294967296) then
 self1 ((x0.1.1,x0.1.2++([(y3.1,y5.2.1)])),IntKind.wrap .i64 (x0.2+(1:Int)))
 else none
 else some x0.1) ((a0.1,[]),(0:Int)):Option ((Int × List (Int × Int)))) fun x6=>
 some (x6,()):=by kernel_rfl
def c_sEdgeOk:TC:=
 (.seq (.rg [o1 3 (.a (.t 1)),
 o1 4 (.lit [.b] [.bool false])])
 (.seq (.join [⟨4,[.b],false⟩] 268435440 none (.rg [oc 5 0,
 o3 6 54 [.t 5,kO 1,kO 12],
 oc 7 6,
 o2 8 (.idx .nil) 2 true,
 o2 9 (.load 3 [] 0 (.t 8) 1 false) 2 true,
 o2 10 (.copy 0) 2 true,
 o2 11 (.data (.bin .sub) [.t 10,kD 1]) 2 true,
 ⟨false,[],[],.call 1 54 [.t 9,kO 0,.t 11] .no,[12],(some 12),some (2,true)⟩,
 o7 7 (.t 12) (.c (.bool false)) 13,
 oc 14 13,
 o2 15 (.idx .nil) 9 true,
 o2 16 (.load 3 [] 1 (.t 15) 1 false) 9 true,
 o2 17 (.copy 0) 9 true,
 o2 18 (.data (.bin .sub) [.t 17,kD 1]) 9 true,
 ⟨false,[],[],.call 1 54 [.t 16,kO 0,.t 18] .no,[19],(some 19),some (9,true)⟩,
 o7 14 (.t 19) (.c (.bool false)) 20,
 oc 21 20,
 o2 22 (.idx .nil) 16 true,
 o2 23 (.load 3 [] 0 (.t 22) 1 false) 16 true,
 o2 24 (.idx .nil) 16 true,
 o2 25 (.load 3 [] 1 (.t 24) 1 false) 16 true,
 o2 26 (.data (.bin .lss) [.t 23,.t 25]) 16 true,
 o7 21 (.t 26) (.c (.bool false)) 27,
 oc 4 27]))
 .ret))
def s_sEdgeOk:Sig:=⟨[.rd false [.d],.rd true [.d,.d]],(.one false [.d])⟩
def E_sEdgeOk:TEnv:=envOf [(54,p_sl01In)]
def f_sEdgeOk (n:Nat):Int × (Int × Int)->Option ((Bool) × Unit):=runFn n E_sEdgeOk c_sEdgeOk [[.i .i64],[.i .i64,.i .i64]] [.b] [] [4] .no
def g_sEdgeOk:=f_sEdgeOk BIG
def p_sEdgeOk:TSp:=⟨s_sEdgeOk,[[.i .i64],[.i .i64,.i .i64]],[.b],[],Ou.j .no,g_sEdgeOk⟩
theorem k_sEdgeOk:chkW PG E_sEdgeOk 47 s_sEdgeOk (c_sEdgeOk.ht 28) .no=some (c_sEdgeOk.wc E_sEdgeOk,[4]):=by kernel_rfl
theorem ok_sEdgeOk:p_sEdgeOk.Ok PG 47:=mkOk (env_cons ok_sl01In (env_nil PG)) k_sEdgeOk (by kernel_rfl)
theorem e_sEdgeOk (n) (a0) (a1):f_sEdgeOk n (a0,a1) =
 Option.bind (Option.bind (g_sl01In (a0,(1:Int),(12:Int))) fun r0=>
 bif r0.1 then
 Option.bind (g_sl01In (a1.1,(0:Int),IntKind.wrap .i64 (a0-(1:Int)))) fun r1=>
 bif r1.1 then
 Option.bind (g_sl01In (a1.2,(0:Int),IntKind.wrap .i64 (a0-(1:Int)))) fun r2=>
 bif r2.1 then
 some (decide (a1.1<a1.2))
 else some false
 else some false
 else some false:Option (Bool)) fun x3=>
 some (x3,()):=by kernel_rfl
def c_sl05Edges:TC:=
 (.seq (.rg [o1 4 (.lit [.b] [.bool false])])
 (.seq (.join [] 68719476720 (some [⟨4,[.b],false⟩]) (.seq (.rg [o1 5 (kL 0)])
 (.block 0 (.loop [⟨5,[.i .i64],false⟩] 68719476720
 (.seq (.seq (.rg [oc 6 5,
 oc 7 1,
 o1 8 (.len 7),
 o1 9 (.data (.bin .lss) [.t 6,.t 8])])
 (.cond (.t 9)
 .skip
 (.exit 0)))
 (.seq (.join [] 68719472656 (some [⟨4,[.b],false⟩]) (.block 1 (.seq (.join [⟨35,[.b],false⟩] 68719472640 none (.rg [oc 12 0,
 oc 13 1,
 oc 14 5,
 o1 15 (.index 13 (.t 14)),
 o1 16 (.load 13 [(0,2)] 0 (.t 15) 2 false),
 o3 17 47 [.t 12,.t 16],
 o1 18 (.data .not [.t 17]),
 oc 19 18,
 o2 20 (.copy 5) 7 false,
 o2 21 (.data (.bin .gtr) [.t 20,kD 0]) 7 false,
 o2 22 (.copy 21) 7 false,
 o2 23 (.copy 1) 10 true,
 o2 24 (.copy 5) 10 true,
 o2 25 (.data (.bin .sub) [.t 24,kD 1]) 10 true,
 o2 26 (.index 23 (.t 25)) 10 true,
 o2 27 (.load 23 [(0,2)] 0 (.t 26) 2 false) 10 true,
 o2 28 (.copy 1) 10 true,
 o2 29 (.copy 5) 10 true,
 o2 30 (.index 28 (.t 29)) 10 true,
 o2 31 (.load 28 [(0,2)] 0 (.t 30) 2 false) 10 true,
 ⟨false,[],[],.call 1 86 [.t 27,.t 31] .no,[32],(some 32),some (10,true)⟩,
 o2 33 (.data .not [.t 32]) 10 true,
 ⟨false,[],[],.pick 22 (.t 33) (.c (.bool false)),[34],(some 34),some (7,false)⟩,
 o7 19 (.c (.bool true)) (.t 34) 35]))
 (.cond (.t 35)
 (.seq (.rg [o1 4 (.lit [.b] [.bool false])])
 .ret)
 .skip))))
 (.rg [oc 10 5,
 o1 11 (.data (.bin .add) [.t 10,kD 1]),
 oc 5 11])))))))
 (.seq (.rg [oc 36 1,
 o1 37 (.len 36),
 o1 38 (.data (.bin .leq) [.t 37,kD 66]),
 oc 4 38])
 .ret)))
def s_sl05Edges:Sig:=⟨[.rd false [.d],.rd false Ct6],(.one false [.d])⟩
def E_sl05Edges:TEnv:=envOf [(47,p_sEdgeOk),(86,p_sl05Less)]
def f_sl05Edges (n:Nat):Int × (List (Int × Int))->Option ((Bool) × Unit):=runFn n E_sl05Edges c_sl05Edges [[.i .i64],[.sl [.i .i64,.i .i64]]] [.b] [] [4] .no
def g_sl05Edges:=f_sl05Edges BIG
def p_sl05Edges:TSp:=⟨s_sl05Edges,[[.i .i64],[.sl [.i .i64,.i .i64]]],[.b],[],Ou.j .no,g_sl05Edges⟩
theorem k_sl05Edges:chkW PG E_sl05Edges 80 s_sl05Edges (c_sl05Edges.ht 39) .no=some (c_sl05Edges.wc E_sl05Edges,[4]):=by kernel_rfl
theorem ok_sl05Edges:p_sl05Edges.Ok PG 80:=mkOk (env_cons ok_sEdgeOk (env_cons ok_sl05Less (env_nil PG))) k_sl05Edges (by kernel_rfl)
theorem e_sl05Edges (n) (a0) (a1):f_sl05Edges n (a0,a1) =
 Option.bind (loopT n (X:=Int) (B:=(Unit) ⊕ (Bool)) (fun self1 x0=>
  bif decide (x0<(a1.length:Int)) then
   Option.bind (Option.bind (bnd a1.length x0 fun n2=>
    Option.bind a1[n2]? fun y3=>
    Option.bind (g_sEdgeOk (a0,y3)) fun r4=>
    bif !r4.1 then
     some true
    else bif decide ((0:Int)<x0) then
     bnd a1.length (IntKind.wrap .i64 (x0-(1:Int))) fun n5=>
     Option.bind a1[n5]? fun y6=>
     bnd a1.length x0 fun n7=>
     Option.bind a1[n7]? fun y8=>
     Option.bind (g_sl05Less (y6,y8)) fun r9=>
     some !r9.1
    else some false:Option (Bool)) fun x10=>
    bif x10 then
     some (Sum.inr false)
    else some (Sum.inl ()):Option ((Unit) ⊕ (Bool))) fun y=>match y with
   | .inl x11=>
    self1 (IntKind.wrap .i64 (x0+(1:Int)))
   | .inr x11=>
    some (Sum.inr x11)
  else some (Sum.inl ())) (0:Int):Option ((Unit) ⊕ (Bool))) fun y=>match y with
 | .inl x12=>
  some (decide ((a1.length:Int)<=(66:Int)),())
 | .inr x12=>
  some (x12,()):=by kernel_rfl
def c_sGraphOk:TC:=
 (.seq (.rg [o1 1 (.a (.t 0)),
 o1 2 (.lit [.b] [.bool false])])
 (.seq (.join [⟨2,[.b],false⟩] 8188 none (.rg [oi 3,
 o1 4 (.load 1 [] 0 (.t 3) 1 false),
 o3 5 54 [.t 4,kO 1,kO 12],
 oc 6 5,
 o2 7 (.idx .nil) 3 true,
 o2 8 (.load 1 [] 0 (.t 7) 1 false) 3 true,
 o2 9 (.idx .nil) 3 true,
 o2 10 (.load 1 [] 1 (.t 9) 1 false) 3 true,
 ⟨false,[],[],.call 1 80 [.t 8,.t 10] .no,[11],(some 11),some (3,true)⟩,
 o7 6 (.t 11) (.c (.bool false)) 12,
 oc 2 12]))
 .ret))
def s_sGraphOk:Sig:=⟨[.rd true Ct5],(.one false [.d])⟩
def E_sGraphOk:TEnv:=envOf [(54,p_sl01In),(80,p_sl05Edges)]
def f_sGraphOk (n:Nat):(Int × List (Int × Int))->Option ((Bool) × Unit):=runFn n E_sGraphOk c_sGraphOk [Ty9] [.b] [] [2] .no
def g_sGraphOk:=f_sGraphOk BIG
def p_sGraphOk:TSp:=⟨s_sGraphOk,[Ty9],[.b],[],Ou.j .no,g_sGraphOk⟩
theorem k_sGraphOk:chkW PG E_sGraphOk 41 s_sGraphOk (c_sGraphOk.ht 13) .no=some (c_sGraphOk.wc E_sGraphOk,[2]):=by kernel_rfl
theorem ok_sGraphOk:p_sGraphOk.Ok PG 41:=mkOk (env_cons ok_sl01In (env_cons ok_sl05Edges (env_nil PG))) k_sGraphOk (by kernel_rfl)
theorem e_sGraphOk (n) (a0):f_sGraphOk n a0 =
 Option.bind (Option.bind (g_sl01In (a0.1,(1:Int),(12:Int))) fun r0=>
 bif r0.1 then
 Option.bind (g_sl05Edges (a0.1,a0.2)) fun r1=>
 some r1.1
 else some false:Option (Bool)) fun x2=>
 some (x2,()):=by kernel_rfl
def c_sl08Tree:TC:=
 (.seq (.rg [o1 2 (.a (.t 0)),
 o1 4 (.lit [.sl [.i .i64,.i .i64]] [.slice none 0 0])])
 (.seq (.rg [o1 8 (.sli [.i .i64,.i .i64] []),
 o5 (.copy 8) 5 8])
 (.seq (.join [⟨5,[.sl [.i .i64,.i .i64]],false⟩] 137438953184 none (.seq (.rg [o1 6 (kL 0)])
 (.block 0 (.loop [⟨5,[.sl [.i .i64,.i .i64]],false⟩,⟨6,[.i .i64],false⟩] 137438953184
 (.seq (.seq (.rg [oc 9 6,
 oi 10,
 o1 11 (.load 2 [] 1 (.t 10) 1 false),
 o1 12 (.len 11),
 o1 13 (.data (.bin .lss) [.t 9,.t 12])])
 (.cond (.t 13)
 .skip
 (.exit 0)))
 (.seq (.join [⟨5,[.sl [.i .i64,.i .i64]],false⟩] 137438888096 none (.block 1 (.seq (.rg [oi 16,
 o1 17 (.load 2 [] 1 (.t 16) 1 false),
 oc 18 6,
 o1 19 (.index 17 (.t 18)),
 o1 20 (.load 17 [(0,4)] 0 (.t 19) 4 false),
 o5 (.a (.c Ty11 [kV 0,kV 0,kV 0,.bool false])) 7 1000000008,
 o4 1 [7] (.store 7 [] 0 .nil (.t 20))])
 (.seq (.join [⟨28,[.b],false⟩] 534773760 none (.rg [oi 21,
 o1 22 (.load 7 [] 3 (.t 21) 1 false),
 oc 23 22,
 o2 24 (.idx .nil) 2 true,
 o2 25 (.load 7 [] 2 (.t 24) 1 false) 2 true,
 o2 26 (.copy 1) 2 true,
 o2 27 (.data (.bin .geq) [.t 25,.t 26]) 2 true,
 o7 23 (.t 27) (.c (.bool false)) 28]))
 (.cond (.t 28)
 (.rg [o5 (.copy 5) 29 5,
 oi 30,
 o1 31 (.load 7 [] 0 (.t 30) 1 false),
 oi 32,
 o1 33 (.load 7 [] 1 (.t 32) 1 false),
 o1 34 (.build [.i .i64,.i .i64] [(0,.t 31),(1,.t 33)]),
 o1 35 (.sli [.i .i64,.i .i64] [.t 34]),
 o5 (.app (some 29) 35) 36 29,
 o5 (.copy 36) 5 36])
 .skip)))))
 (.rg [oc 14 6,
 o1 15 (.data (.bin .add) [.t 14,kD 1]),
 oc 6 15])))))))
 (.seq (.rg [o5 (.copy 5) 37 5,
 o5 (.copy 37) 4 37])
 .ret))))
def s_sl08Tree:Sig:=⟨[.rd true Ct4,.rd false [.d]],(.one false Ct6)⟩
def E_sl08Tree:TEnv:=envOf []
def f_sl08Tree (n:Nat):(Int × List (Int × Int × Int × Bool)) × Int->Option ((List (Int × Int)) × Unit):=runFn n E_sl08Tree c_sl08Tree [Ty6,[.i .i64]] [.sl [.i .i64,.i .i64]] [] [4] .no
def g_sl08Tree:=f_sl08Tree BIG
def p_sl08Tree:TSp:=⟨s_sl08Tree,[Ty6,[.i .i64]],[.sl [.i .i64,.i .i64]],[],Ou.j .no,g_sl08Tree⟩
theorem k_sl08Tree:chkW PG E_sl08Tree 88 s_sl08Tree (c_sl08Tree.ht 38) .no=some (c_sl08Tree.wc E_sl08Tree,[4]):=by kernel_rfl
theorem ok_sl08Tree:p_sl08Tree.Ok PG 88:=mkOk (env_nil PG) k_sl08Tree (by kernel_rfl)
theorem e_sl08Tree (n) (a0) (a1):f_sl08Tree n (a0,a1) =
 Option.bind (loopT n (X:=(List (Int × Int)) × Int) (B:=(List (Int × Int))) (fun self1 x0=>
 bif decide (x0.2<(a0.2.length:Int)) then
 Option.bind (bnd a0.2.length x0.2 fun n2=>
 Option.bind a0.2[n2]? fun y3=>
 Option.bind (bif y3.2.2.2 then
 some (decide (a1<=y3.2.2.1))
 else some false:Option (Bool)) fun x4=>
 bif x4 then
 bif decide (x0.1.length+([(y3.1,y3.2.1)]).length<=4294967296) then
 some (x0.1++([(y3.1,y3.2.1)]))
 else none
 else some x0.1:Option ((List (Int × Int)))) fun x5=>
 self1 (x5,IntKind.wrap .i64 (x0.2+(1:Int)))
 else some x0.1) ([],(0:Int)):Option ((List (Int × Int)))) fun x6=>
 some (x6,()):=by kernel_rfl
def c_sl05In:TC:=
 (.seq (.rg [o1 4 (.lit [.b] [.bool false])])
 (.seq (.join [] 262128 (some [⟨4,[.b],false⟩]) (.seq (.rg [o1 5 (kL 0)])
 (.block 0 (.loop [⟨5,[.i .i64],false⟩] 262128
 (.seq (.seq (.rg [oc 6 5,
 oc 7 0,
 o1 8 (.len 7),
 o1 9 (.data (.bin .lss) [.t 6,.t 8])])
 (.cond (.t 9)
 .skip
 (.exit 0)))
 (.seq (.block 1 (.seq (.rg [oc 12 0,
 oc 13 5,
 o1 14 (.index 12 (.t 13)),
 o1 15 (.load 12 [(0,1)] 0 (.t 14) 1 false),
 oc 16 1,
 o1 17 (.data (.bin .eql) [.t 15,.t 16])])
 (.cond (.t 17)
 (.seq (.rg [o1 4 (.lit [.b] [.bool true])])
 .ret)
 .skip)))
 (.rg [oc 10 5,
 o1 11 (.data (.bin .add) [.t 10,kD 1]),
 oc 5 11])))))))
 (.seq (.rg [o1 4 (.lit [.b] [.bool false])])
 .ret)))
def s_sl05In:Sig:=⟨[.rd false Ct7,.rd false [.d]],(.one false [.d])⟩
def E_sl05In:TEnv:=envOf []
def f_sl05In (n:Nat):List (Int) × Int->Option ((Bool) × Unit):=runFn n E_sl05In c_sl05In [[.sl [.i .i64]],[.i .i64]] [.b] [] [4] .no
def g_sl05In:=f_sl05In BIG
def p_sl05In:TSp:=⟨s_sl05In,[[.sl [.i .i64]],[.i .i64]],[.b],[],Ou.j .no,g_sl05In⟩
theorem k_sl05In:chkW PG E_sl05In 89 s_sl05In (c_sl05In.ht 18) .no=some (c_sl05In.wc E_sl05In,[4]):=by kernel_rfl
theorem ok_sl05In:p_sl05In.Ok PG 89:=mkOk (env_nil PG) k_sl05In (by kernel_rfl)
theorem e_sl05In (n) (a0) (a1):f_sl05In n (a0,a1) =
 Option.bind (loopT n (X:=Int) (B:=(Unit) ⊕ (Bool)) (fun self1 x0=>
  bif decide (x0<(a0.length:Int)) then
   bnd a0.length x0 fun n2=>
   Option.bind a0[n2]? fun y3=>
   bif decide (y3=a1) then
    some (Sum.inr true)
   else self1 (IntKind.wrap .i64 (x0+(1:Int)))
  else some (Sum.inl ())) (0:Int):Option ((Unit) ⊕ (Bool))) fun y=>match y with
 | .inl x4=>
  some (false,())
 | .inr x4=>
  some (x4,()):=by kernel_rfl
def c_sl06Walk:TC:=
 (.seq (.rg [o1 10 (.lit [.sl [.i .i64]] [.slice none 0 0]),
 o1 11 (.lit [.b] [.bool false])])
 (.seq (.rg [oc 17 2,
 o1 18 (.sli [.i .i64] [.t 17]),
 o5 (.copy 18) 12 18])
 (.seq (.rg [o6 19 4,
 oc 20 2,
 o1 21 (.index 19 (.t 20)),
 o4 1 [4,19] (.store 4 [(0,1)] 0 (.t 21) (.c [.b] [.bool true]))])
 (.seq (.join [⟨12,[.sl [.i .i64]],false⟩,⟨4,[.sl [.b]],false⟩] 147573952589672348688 (some [⟨10,[.sl [.i .i64]],false⟩,⟨11,[.b],false⟩,⟨4,[.sl [.b]],false⟩]) (.seq (.rg [o1 13 (kL 0)])
 (.block 0 (.loop [⟨12,[.sl [.i .i64]],false⟩,⟨4,[.sl [.b]],false⟩,⟨13,[.i .i64],false⟩] 147573952589674445840
 (.seq (.seq (.rg [oc 22 13,
 oc 23 0,
 o1 24 (.data (.bin .lss) [.t 22,.t 23])])
 (.cond (.t 24)
 .skip
 (.exit 0)))
 (.seq (.join [⟨12,[.sl [.i .i64]],false⟩,⟨4,[.sl [.b]],false⟩] 147573952589542317072 (some [⟨10,[.sl [.i .i64]],false⟩,⟨11,[.b],false⟩,⟨4,[.sl [.b]],false⟩]) (.block 1 (.seq (.rg [oc 27 13,
 oc 28 2,
 o1 29 (.build [.i .i64,.i .i64] [(0,.t 27),(1,.t 28)]),
 o5 (.a (.c [.i .i64,.i .i64] [kV 0,kV 0])) 14 1000000015,
 o4 1 [14] (.store 14 [] 0 .nil (.t 29))])
 (.seq (.join [⟨14,[.i .i64,.i .i64],false⟩] 67645751296 none (.seq (.rg [oc 30 2,
 oc 31 13,
 o1 32 (.data (.bin .lss) [.t 30,.t 31])])
 (.cond (.t 32)
 (.rg [oc 33 2,
 oc 34 13,
 o1 35 (.build [.i .i64,.i .i64] [(0,.t 33),(1,.t 34)]),
 o4 1 [14] (.store 14 [] 0 .nil (.t 35))])
 .skip)))
 (.seq (.seq (.join [⟨44,[.b],false⟩] 35115652612096 none (.rg [oc 36 13,
 oc 37 3,
 o1 38 (.data (.bin .eql) [.t 36,.t 37]),
 oc 39 38,
 o2 40 (.copy 1) 3 false,
 o2 41 (.load 14 [] 0 .nil 2 false) 3 false,
 ⟨false,[],[],.call 1 38 [.t 40,.t 41] .no,[42],(some 42),some (3,false)⟩,
 o2 43 (.data .not [.t 42]) 3 false,
 o7 39 (.c (.bool true)) (.t 43) 44]))
 (.cond (.t 44)
 (.exit 1)
 .skip))
 (.seq (.seq (.rg [o6 45 4,
 oc 46 13,
 o1 47 (.index 45 (.t 46)),
 o1 48 (.load 4 [(0,1)] 0 (.t 47) 1 false)])
 (.cond (.t 48)
 (.seq (.rg [o5 (.copy 12) 49 12,
 o5 (.copy 49) 10 49,
 o1 11 (.lit [.b] [.bool true])])
 .ret)
 .skip))
 (.seq (.rg [oc 51 0,
 oc 52 1,
 oc 53 13,
 oc 54 2,
 o6 55 4,
 ⟨false,[],[],.call 2 104 [.t 51,.t 52,.t 53,.t 54,.t 55] (.mt 4 [] 0 55 4),[56,4,45,47,55],(some 56),none⟩,
 o5 (.copy 56) 50 56,
 o5 (.ext 50 0 1) 57 50,
 o1 58 (.ext 50 1 1),
 o5 (.copy 57) 15 57,
 oc 16 58])
 (.seq (.seq (.rg [oc 59 16])
 (.cond (.t 59)
 (.seq (.rg [o5 (.copy 12) 60 12,
 o5 (.copy 60) 10 60,
 o1 11 (.lit [.b] [.bool true])])
 .ret)
 .skip))
 (.rg [o5 (.copy 12) 61 12,
 o5 (.copy 15) 62 15,
 o5 (.app (some 61) 62) 63 61,
 oc 64 2,
 o1 65 (.sli [.i .i64] [.t 64]),
 o5 (.app (some 63) 65) 66 63,
 o5 (.copy 66) 12 66])))))))))
 (.rg [oc 25 13,
 o1 26 (.data (.bin .add) [.t 25,kD 1]),
 oc 13 26])))))))
 (.seq (.rg [o5 (.copy 12) 67 12,
 o5 (.copy 67) 10 67,
 o1 11 (.lit [.b] [.bool false])])
 .ret)))))
def s_sl06Walk:Sig:=⟨[.rd false [.d],.rd false Ct6,.rd false [.d],.rd false [.d],.mt false Ct7],(.tup [(false,1),(false,1)] [.sl (.own none) [.d],.d])⟩
def E_sl06Walk (q:Int × (List (Int × Int)) × Int × Int × List (Bool)->Option ((List (Int) × Bool) × List (Bool))):TEnv:=envOf [(38,p_sl05Has),(104,⟨s_sl06Walk,[[.i .i64],[.sl [.i .i64,.i .i64]],[.i .i64],[.i .i64],[.sl [.b]]],[.sl [.i .i64],.b],[.sl [.b]],Ou.j (.mt 4 4 0),q⟩)]
def f_sl06Walk (q:Int × (List (Int × Int)) × Int × Int × List (Bool)->Option ((List (Int) × Bool) × List (Bool))) (n:Nat):Int × (List (Int × Int)) × Int × Int × List (Bool)->Option ((List (Int) × Bool) × List (Bool)):=runFn n (E_sl06Walk q) c_sl06Walk [[.i .i64],[.sl [.i .i64,.i .i64]],[.i .i64],[.i .i64],[.sl [.b]]] [.sl [.i .i64],.b] [.sl [.b]] [10,11] (.mt 4 4 0)
def g_sl06Walk:Nat->Int × (List (Int × Int)) × Int × Int × List (Bool)->Option ((List (Int) × Bool) × List (Bool))
 | 0=>fun _=>none
 | d+1=>f_sl06Walk (g_sl06Walk d) BIG
def p_sl06Walk (d:Nat):TSp:=⟨s_sl06Walk,[[.i .i64],[.sl [.i .i64,.i .i64]],[.i .i64],[.i .i64],[.sl [.b]]],[.sl [.i .i64],.b],[.sl [.b]],Ou.j (.mt 4 4 0),(g_sl06Walk d)⟩
theorem k_sl06Walk (q:Int × (List (Int × Int)) × Int × Int × List (Bool)->Option ((List (Int) × Bool) × List (Bool))):chkW PG (E_sl06Walk q) 104 s_sl06Walk (c_sl06Walk.ht 68) (.mt 4 4 0)=some (c_sl06Walk.wc (E_sl06Walk q),[10,11]):=by kernel_rfl
theorem ok_sl06Walk:∀d:Nat,(p_sl06Walk d).Ok PG 104
 | 0=>fun _ _ _ h=>by cases h
 | d+1=>mkOk (env_cons ok_sl05Has (env_cons (ok_sl06Walk d) (env_nil PG))) (k_sl06Walk _) (by kernel_rfl)
theorem e_sl06Walk (q:Int × (List (Int × Int)) × Int × Int × List (Bool)->Option ((List (Int) × Bool) × List (Bool))) (n) (a0) (a1) (a2) (a3) (a4):f_sl06Walk q n (a0,a1,a2,a3,a4) =
 bnd a4.length a2 fun n0=>
 Option.bind a4[n0]? fun y1=>
 Option.bind (loopT n (X:=(List (Int)) × (List (Bool)) × Int) (B:=((List (Int)) × (List (Bool))) ⊕ ((List (Int)) × Bool × (List (Bool)))) (fun self3 x2=>
  bif decide (x2.2.2<a0) then
   Option.bind (Option.bind (bif decide (a2<x2.2.2) then
     some (a2,x2.2.2)
    else some (x2.2.2,a2):Option ((Int × Int))) fun x4=>
    Option.bind (bif decide (x2.2.2=a3) then
     some true
     else Option.bind (g_sl05Has (a1,x4)) fun r5=>
     some !r5.1:Option (Bool)) fun x6=>
    bif x6 then
     some (Sum.inl (x2.1,x2.2.1))
    else bnd x2.2.1.length x2.2.2 fun n7=>
    Option.bind x2.2.1[n7]? fun y8=>
    bif y8 then
     some (Sum.inr (x2.1,true,x2.2.1))
    else Option.bind (q (a0,a1,x2.2.2,a2,x2.2.1)) fun r9=>
    bif r9.1.2 then
     some (Sum.inr (x2.1,true,r9.2))
    else bif decide (x2.1.length+r9.1.1.length<=4294967296) then
     bif decide ((x2.1++r9.1.1).length+[a2].length<=4294967296) then
      some (Sum.inl ((x2.1++r9.1.1)++[a2],r9.2))
     else none
    else none:Option (((List (Int)) × (List (Bool))) ⊕ ((List (Int)) × Bool × (List (Bool))))) fun y=>match y with
   | .inl x10=>
    self3 (x10.1,x10.2,IntKind.wrap .i64 (x2.2.2+(1:Int)))
   | .inr x10=>
    some (Sum.inr (x10.1,x10.2.1,x10.2.2))
  else some (Sum.inl (x2.1,x2.2.1))) ([a2],a4.set n0 true,(0:Int)):Option (((List (Int)) × (List (Bool))) ⊕ ((List (Int)) × Bool × (List (Bool))))) fun y=>match y with
 | .inl x11=>
  some ((x11.1,false),x11.2)
 | .inr x11=>
  some ((x11.1,x11.2.1),x11.2.2):=by kernel_rfl
def c_sTourOf:TC:=
 (.seq (.rg [o1 6 (.lit [.sl [.i .i64]] [.slice none 0 0]),
 o1 7 (.lit [.b] [.bool false])])
 (.seq (.seq (.join [⟨20,[.b],false⟩] 2095104 none (.rg [oc 11 0,
 o3 12 54 [.t 11,kO 1,kO 12],
 o1 13 (.data .not [.t 12]),
 oc 14 13,
 o2 15 (.copy 2) 3 false,
 o2 16 (.copy 0) 3 false,
 o2 17 (.data (.bin .sub) [.t 16,kD 1]) 3 false,
 ⟨false,[],[],.call 1 54 [.t 15,kO 0,.t 17] .no,[18],(some 18),some (3,false)⟩,
 o2 19 (.data .not [.t 18]) 3 false,
 o7 14 (.c (.bool true)) (.t 19) 20]))
 (.cond (.t 20)
 (.seq (.rg [o1 21 (.sli [.i .i64] []),
 o5 (.copy 21) 6 21,
 o1 7 (.lit [.b] [.bool false])])
 .ret)
 .skip))
 (.seq (.join [] 68715282880 (some [⟨6,[.sl [.i .i64]],false⟩,⟨7,[.b],false⟩]) (.seq (.rg [o1 8 (kL 0)])
 (.block 0 (.loop [⟨8,[.i .i64],false⟩] 68715282880
 (.seq (.seq (.rg [oc 22 8,
 oc 23 1,
 o1 24 (.len 23),
 o1 25 (.data (.bin .lss) [.t 22,.t 24])])
 (.cond (.t 25)
 .skip
 (.exit 0)))
 (.seq (.block 1 (.seq (.rg [oc 28 0,
 oc 29 1,
 oc 30 8,
 o1 31 (.index 29 (.t 30)),
 o1 32 (.load 29 [(0,2)] 0 (.t 31) 2 false),
 o3 33 47 [.t 28,.t 32],
 o1 34 (.data .not [.t 33])])
 (.cond (.t 34)
 (.seq (.rg [o1 35 (.sli [.i .i64] []),
 o5 (.copy 35) 6 35,
 o1 7 (.lit [.b] [.bool false])])
 .ret)
 .skip)))
 (.rg [oc 26 8,
 o1 27 (.data (.bin .add) [.t 26,kD 1]),
 oc 8 27])))))))
 (.seq (.rg [oc 37 0,
 oc 38 1,
 oc 39 2,
 oc 40 0,
 o1 41 (.make (.t 40) [.b]),
 ⟨false,[],[],.call 2 104 [.t 37,.t 38,.t 39,kO (-1),.t 41] (.mt 41 [] 0 41 4),[42,41],(some 42),none⟩,
 o5 (.copy 42) 36 42,
 o5 (.ext 36 0 1) 43 36,
 o1 44 (.ext 36 1 1),
 o5 (.copy 43) 9 43,
 oc 10 44])
 (.seq (.seq (.rg [oc 45 10])
 (.cond (.t 45)
 (.seq (.rg [o1 46 (.sli [.i .i64] []),
 o5 (.copy 46) 6 46,
 o1 7 (.lit [.b] [.bool false])])
 .ret)
 .skip))
 (.seq (.rg [o5 (.copy 9) 47 9,
 o5 (.copy 47) 6 47,
 o1 7 (.lit [.b] [.bool true])])
 .ret))))))
def s_sTourOf:Sig:=⟨[.rd false [.d],.rd false Ct6,.rd false [.d]],(.tup [(false,1),(false,1)] [.sl (.own none) [.d],.d])⟩
def E_sTourOf:TEnv:=envOf [(54,p_sl01In),(47,p_sEdgeOk),(104,p_sl06Walk 64)]
def f_sTourOf (n:Nat):Int × (List (Int × Int)) × Int->Option ((List (Int) × Bool) × Unit):=runFn n E_sTourOf c_sTourOf [[.i .i64],[.sl [.i .i64,.i .i64]],[.i .i64]] [.sl [.i .i64],.b] [] [6,7] .no
def g_sTourOf:=f_sTourOf BIG
def p_sTourOf:TSp:=⟨s_sTourOf,[[.i .i64],[.sl [.i .i64,.i .i64]],[.i .i64]],[.sl [.i .i64],.b],[],Ou.j .no,g_sTourOf⟩
theorem k_sTourOf:chkW PG E_sTourOf 90 s_sTourOf (c_sTourOf.ht 48) .no=some (c_sTourOf.wc E_sTourOf,[6,7]):=by kernel_rfl
theorem ok_sTourOf:p_sTourOf.Ok PG 90:=mkOk (env_cons ok_sl01In (env_cons ok_sEdgeOk (env_cons (ok_sl06Walk 64) (env_nil PG)))) k_sTourOf (by kernel_rfl)
theorem e_sTourOf (n) (a0) (a1) (a2):f_sTourOf n (a0,a1,a2) =
 Option.bind (Option.bind (g_sl01In (a0,(1:Int),(12:Int))) fun r0=>
  bif !r0.1 then
   some true
  else Option.bind (g_sl01In (a2,(0:Int),IntKind.wrap .i64 (a0-(1:Int)))) fun r1=>
  some !r1.1:Option (Bool)) fun x2=>
 bif x2 then
  some (([],false),())
 else Option.bind (loopT n (X:=Int) (B:=(Unit) ⊕ ((List (Int)) × Bool)) (fun self4 x3=>
  bif decide (x3<(a1.length:Int)) then
   bnd a1.length x3 fun n5=>
   Option.bind a1[n5]? fun y6=>
   Option.bind (g_sEdgeOk (a0,y6)) fun r7=>
   bif !r7.1 then
    some (Sum.inr ([],false))
   else self4 (IntKind.wrap .i64 (x3+(1:Int)))
  else some (Sum.inl ())) (0:Int):Option ((Unit) ⊕ ((List (Int)) × Bool))) fun y=>match y with
 | .inl x8=>
  bif decide (0<=a0) then
   bif decide ((Int.toNat a0)<=4294967296) then
    Option.bind (g_sl06Walk 64 (a0,a1,a2,(-1:Int),List.replicate (Int.toNat a0) false)) fun r9=>
    bif r9.1.2 then
     some (([],false),())
    else some ((r9.1.1,true),())
   else none
  else none
 | .inr x8=>
  some (x8,()):=by kernel_rfl
def c_sForestAt:TC:=
 (.seq (.rg [o1 2 (.a (.t 0)),
 o5 (.a (.c Ty12 [kV 0,.slice none 0 0])) 4 1000000005,
 o1 5 (.lit [.b] [.bool false])])
 (.seq (.rg [oi 12,
 o1 13 (.load 2 [] 0 (.t 12) 1 false),
 o1 14 (.build Ty12 [(0,.t 13)]),
 o5 (.a (.c Ty12 [kV 0,.slice none 0 0])) 6 1000000007,
 ⟨false,[14],[],.det 2 (.store 6 [] 0 .nil (.t 14)),[6,14,14],none,none⟩])
 (.seq (.rg [o1 15 (.load 2 [] 0 .nil 2 false),
 oc 16 1,
 o3 17 88 [.t 15,.t 16],
 o5 (.copy 17) 7 17])
 (.seq (.seq (.rg [oi 18,
 o1 19 (.load 2 [] 0 (.t 18) 1 false),
 o3 20 54 [.t 19,kO 1,kO 12],
 o1 21 (.data .not [.t 20])])
 (.cond (.t 21)
 (.seq (.rg [o1 22 (.build Ty12 []),
 ⟨false,[22],[],.det 2 (.store 4 [] 0 .nil (.t 22)),[4,22,22],none,none⟩,
 o1 5 (.lit [.b] [.bool false])])
 .ret)
 .skip))
 (.seq (.rg [o1 23 (.sli [.i .i64] []),
 o5 (.copy 23) 8 23])
 (.seq (.join [⟨4,Ty12,false⟩,⟨6,Ty12,false⟩] 9007199237967728 (some [⟨4,Ty12,false⟩,⟨5,[.b],false⟩]) (.seq (.rg [o1 9 (kL 0)])
 (.block 0 (.loop [⟨4,Ty12,false⟩,⟨6,Ty12,false⟩,⟨8,[.sl [.i .i64]],false⟩,⟨9,[.i .i64],false⟩] 9007199237967728
 (.seq (.seq (.rg [oc 24 9,
 oi 25,
 o1 26 (.load 2 [] 0 (.t 25) 1 false),
 o1 27 (.data (.bin .lss) [.t 24,.t 26])])
 (.cond (.t 27)
 .skip
 (.exit 0)))
 (.seq (.join [⟨4,Ty12,false⟩,⟨6,Ty12,false⟩,⟨8,[.sl [.i .i64]],false⟩] 9007198181002608 (some [⟨4,Ty12,false⟩,⟨5,[.b],false⟩]) (.block 1 (.seq (.seq (.rg [o6 30 8,
 oc 31 9,
 o3 32 89 [.t 30,.t 31]])
 (.cond (.t 32)
 (.exit 1)
 .skip))
 (.seq (.rg [oi 34,
 o1 35 (.load 2 [] 0 (.t 34) 1 false),
 o6 36 7,
 oc 37 9,
 o3 38 90 [.t 35,.t 36,.t 37],
 o5 (.copy 38) 33 38,
 o5 (.ext 33 0 1) 39 33,
 o1 40 (.ext 33 1 1),
 o5 (.copy 39) 10 39,
 oc 11 40])
 (.seq (.seq (.rg [oc 41 11,
 o1 42 (.data .not [.t 41])])
 (.cond (.t 42)
 (.seq (.rg [o1 43 (.build Ty12 []),
 ⟨false,[43],[],.det 2 (.store 4 [] 0 .nil (.t 43)),[4,43,43],none,none⟩,
 o1 5 (.lit [.b] [.bool false])])
 .ret)
 .skip))
 (.seq (.rg [oi 44,
 o1 45 (.load 6 [] 1 (.t 44) 1 true),
 ⟨true,[10],[],.det 1 (.copy 10),[46,10],(some 46),none⟩,
 o1 47 (.sli [.sl [.i .i64]] [.t 46]),
 ⟨false,[45],[],.det 2 (.app (some 45) 47),[48,45,45,6],(some 48),none⟩,
 oi 49,
 o4 2 [6,48,45] (.store 6 [] 1 (.t 49) (.t 48))])
 (.rg [⟨false,[],[],.det 2 (.copy 8),[50,8,30],(some 50),none⟩,
 oc 51 10,
 o5 (.app (some 50) 51) 52 50,
 ⟨false,[],[],.det 2 (.copy 52),[8,52,30],(some 8),none⟩])))))))
 (.rg [oc 28 9,
 o1 29 (.data (.bin .add) [.t 28,kD 1]),
 oc 9 29])))))))
 (.seq (.rg [o1 53 (.load 6 [] 0 .nil 2 true),
 ⟨false,[53],[],.det 2 (.store 4 [] 0 .nil (.t 53)),[4,53,53,6],none,none⟩,
 o1 5 (.lit [.b] [.bool true])])
 .ret)))))))
def s_sForestAt:Sig:=⟨[.rd true Ct4,.rd false [.d]],(.tup [(true,2),(false,1)] [.d,.sl (.own none) [.sl (.ro []) [.d]],.d])⟩
def E_sForestAt:TEnv:=envOf [(88,p_sl08Tree),(54,p_sl01In),(89,p_sl05In),(90,p_sTourOf)]
def f_sForestAt (n:Nat):(Int × List (Int × Int × Int × Bool)) × Int->Option ((Int × List (List (Int)) × Bool) × Unit):=runFn n E_sForestAt c_sForestAt [Ty6,[.i .i64]] [.i .i64,.sl [.sl [.i .i64]],.b] [] [4,5] .no
def g_sForestAt:=f_sForestAt BIG
def p_sForestAt:TSp:=⟨s_sForestAt,[Ty6,[.i .i64]],[.i .i64,.sl [.sl [.i .i64]],.b],[],Ou.j .no,g_sForestAt⟩
theorem k_sForestAt:chkW PG E_sForestAt 55 s_sForestAt (c_sForestAt.ht 54) .no=some (c_sForestAt.wc E_sForestAt,[4,5]):=by kernel_rfl
theorem ok_sForestAt:p_sForestAt.Ok PG 55:=mkOk (env_cons ok_sl08Tree (env_cons ok_sl01In (env_cons ok_sl05In (env_cons ok_sTourOf (env_nil PG))))) k_sForestAt (by kernel_rfl)
theorem e_sForestAt (n) (a0) (a1):f_sForestAt n (a0,a1) =
 Option.bind (g_sl08Tree (a0,a1)) fun r0=>
 Option.bind (g_sl01In (a0.1,(1:Int),(12:Int))) fun r1=>
 bif !r1.1 then
  some (((0:Int),[],false),())
 else Option.bind (loopT n (X:=(Int × List ((List (Int)))) × (Int × List ((List (Int)))) × (List (Int)) × Int) (B:=((Int × List ((List (Int)))) × (Int × List ((List (Int))))) ⊕ ((Int × List ((List (Int)))) × Bool)) (fun self3 x2=>
  bif decide (x2.2.2.2<a0.1) then
   Option.bind (Option.bind (g_sl05In (x2.2.2.1,x2.2.2.2)) fun r4=>
    bif r4.1 then
     some (Sum.inl (x2.1,x2.2.1,x2.2.2.1))
    else Option.bind (g_sTourOf (a0.1,r0.1,x2.2.2.2)) fun r5=>
    bif !r5.1.2 then
     some (Sum.inr (((0:Int),[]),false))
    else bif decide (x2.2.1.2.length+[r5.1.1].length<=4294967296) then
     bif decide (x2.2.2.1.length+r5.1.1.length<=4294967296) then
      some (Sum.inl (x2.1,(x2.2.1.1,x2.2.1.2++[r5.1.1]),x2.2.2.1++r5.1.1))
     else none
    else none:Option (((Int × List ((List (Int)))) × (Int × List ((List (Int)))) × (List (Int))) ⊕ ((Int × List ((List (Int)))) × Bool))) fun y=>match y with
   | .inl x6=>
    self3 (x6.1,x6.2.1,x6.2.2,IntKind.wrap .i64 (x2.2.2.2+(1:Int)))
   | .inr x6=>
    some (Sum.inr (x6.1,x6.2))
  else some (Sum.inl (x2.1,x2.2.1))) (((0:Int),[]),(a0.1,[]),[],(0:Int)):Option (((Int × List ((List (Int)))) × (Int × List ((List (Int))))) ⊕ ((Int × List ((List (Int)))) × Bool))) fun y=>match y with
 | .inl x7=>
  some ((x7.2.1,x7.2.2,true),())
 | .inr x7=>
  some ((x7.1.1,x7.1.2,x7.2),()):=by kernel_rfl
def c_sVertsOf:TC:=
 (.seq (.rg [o1 2 (.lit [.sl [.i .i64]] [.slice none 0 0])])
 (.seq (.rg [o1 5 (.sli [.i .i64] []),
 o5 (.copy 5) 3 5])
 (.seq (.join [⟨3,[.sl [.i .i64]],false⟩] 131032 none (.seq (.rg [o1 4 (kL 0)])
 (.block 0 (.loop [⟨3,[.sl [.i .i64]],false⟩,⟨4,[.i .i64],false⟩] 131032
 (.seq (.seq (.rg [oc 6 4,
 o1 7 (.data (.bin .lss) [.t 6,kD 12])])
 (.cond (.t 7)
 .skip
 (.exit 0)))
 (.seq (.join [⟨3,[.sl [.i .i64]],false⟩] 130056 none (.block 1 (.seq (.rg [oc 10 0,
 oc 11 4,
 o3 12 89 [.t 10,.t 11]])
 (.cond (.t 12)
 (.rg [o5 (.copy 3) 13 3,
 oc 14 4,
 o1 15 (.sli [.i .i64] [.t 14]),
 o5 (.app (some 13) 15) 16 13,
 o5 (.copy 16) 3 16])
 .skip))))
 (.rg [oc 8 4,
 o1 9 (.data (.bin .add) [.t 8,kD 1]),
 oc 4 9])))))))
 (.seq (.rg [o5 (.copy 3) 17 3,
 o5 (.copy 17) 2 17])
 .ret))))
def s_sVertsOf:Sig:=⟨[.rd false Ct7],(.one false Ct7)⟩
def E_sVertsOf:TEnv:=envOf [(89,p_sl05In)]
def f_sVertsOf (n:Nat):List (Int)->Option ((List (Int)) × Unit):=runFn n E_sVertsOf c_sVertsOf [[.sl [.i .i64]]] [.sl [.i .i64]] [] [2] .no
def g_sVertsOf:=f_sVertsOf BIG
def p_sVertsOf:TSp:=⟨s_sVertsOf,[[.sl [.i .i64]]],[.sl [.i .i64]],[],Ou.j .no,g_sVertsOf⟩
theorem k_sVertsOf:chkW PG E_sVertsOf 56 s_sVertsOf (c_sVertsOf.ht 18) .no=some (c_sVertsOf.wc E_sVertsOf,[2]):=by kernel_rfl
theorem ok_sVertsOf:p_sVertsOf.Ok PG 56:=mkOk (env_cons ok_sl05In (env_nil PG)) k_sVertsOf (by kernel_rfl)
theorem e_sVertsOf (n) (a0):f_sVertsOf n a0 =
 Option.bind (loopT n (X:=(List (Int)) × Int) (B:=(List (Int))) (fun self1 x0=>
 bif decide (x0.2<(12:Int)) then
 Option.bind (Option.bind (g_sl05In (a0,x0.2)) fun r2=>
 bif r2.1 then
 bif decide (x0.1.length+[x0.2].length<=4294967296) then
 some (x0.1++[x0.2])
 else none
 else some x0.1:Option ((List (Int)))) fun x3=>
 self1 (x3,IntKind.wrap .i64 (x0.2+(1:Int)))
 else some x0.1) ([],(0:Int)):Option ((List (Int)))) fun x4=>
 some (x4,()):=by kernel_rfl
def c_sl06Open:TC:=
 (.seq (.rg [o1 2 (.lit [.b] [.bool false])])
 (.seq (.rg [oc 6 0,
 o1 7 (.index 6 (kD 0)),
 o1 8 (.load 6 [(0,1)] 0 (.t 7) 1 false),
 o1 9 (.sli [.i .i64] [.t 8]),
 o5 (.copy 9) 3 9])
 (.seq (.rg [oc 10 0,
 o1 11 (.index 10 (kD 0)),
 o1 12 (.load 10 [(0,1)] 0 (.t 11) 1 false),
 o1 13 (.sli [.i .i64] [.t 12]),
 o5 (.copy 13) 4 13])
 (.seq (.join [⟨3,[.sl [.i .i64]],false⟩] 2305843009213677628 (some [⟨2,[.b],false⟩]) (.seq (.rg [o1 5 (kL 1)])
 (.block 0 (.loop [⟨3,[.sl [.i .i64]],false⟩,⟨4,[.sl [.i .i64]],false⟩,⟨5,[.i .i64],false⟩] 2305843009213677628
 (.seq (.seq (.rg [oc 14 5,
 oc 15 0,
 o1 16 (.len 15),
 o1 17 (.data (.bin .lss) [.t 14,.t 16])])
 (.cond (.t 17)
 .skip
 (.exit 0)))
 (.seq (.join [⟨3,[.sl [.i .i64]],false⟩,⟨4,[.sl [.i .i64]],false⟩] 2305843009212645404 (some [⟨2,[.b],false⟩]) (.block 1 (.seq (.seq (.join [⟨35,[.b],false⟩] 68718428160 none (.rg [o6 20 3,
 o1 21 (.len 20),
 o1 22 (.data (.bin .gtr) [.t 21,kD 1]),
 oc 23 22,
 o2 24 (.copy 0) 3 true,
 o2 25 (.copy 5) 3 true,
 o2 26 (.index 24 (.t 25)) 3 true,
 o2 27 (.load 24 [(0,1)] 0 (.t 26) 1 false) 3 true,
 ⟨true,[],[],.det 1 (.copy 3),[28],(some 28),some (3,true)⟩,
 ⟨true,[],[],.det 1 (.copy 3),[29],(some 29),some (3,true)⟩,
 o2 30 (.len 29) 3 true,
 o2 31 (.data (.bin .sub) [.t 30,kD 2]) 3 true,
 o2 32 (.index 28 (.t 31)) 3 true,
 o2 33 (.load 3 [(0,1)] 0 (.t 32) 1 false) 3 true,
 o2 34 (.data (.bin .eql) [.t 27,.t 33]) 3 true,
 o7 23 (.t 34) (.c (.bool false)) 35]))
 (.cond (.t 35)
 (.seq (.rg [o6 36 3,
 o6 37 3,
 o1 38 (.len 37),
 o1 39 (.data (.bin .sub) [.t 38,kD 1]),
 ⟨true,[36],[],.det 2 (.res 36 none (some (.t 39))),[40,36,36,3,20,37],(some 40),none⟩,
 ⟨false,[],[],.det 2 (.copy 40),[3,40,20,37,36],(some 3),none⟩])
 (.exit 1))
 .skip))
 (.seq (.seq (.rg [o6 41 4,
 oc 42 0,
 oc 43 5,
 o1 44 (.index 42 (.t 43)),
 o1 45 (.load 42 [(0,1)] 0 (.t 44) 1 false),
 o3 46 89 [.t 41,.t 45]])
 (.cond (.t 46)
 (.seq (.rg [o1 2 (.lit [.b] [.bool false])])
 .ret)
 .skip))
 (.seq (.rg [⟨false,[],[],.det 2 (.copy 4),[47,4,41],(some 47),none⟩,
 oc 48 0,
 oc 49 5,
 o1 50 (.index 48 (.t 49)),
 o1 51 (.load 48 [(0,1)] 0 (.t 50) 1 false),
 o1 52 (.sli [.i .i64] [.t 51]),
 o5 (.app (some 47) 52) 53 47,
 ⟨false,[],[],.det 2 (.copy 53),[4,53,41],(some 4),none⟩])
 (.rg [⟨false,[],[],.det 2 (.copy 3),[54,3,20],(some 54),none⟩,
 oc 55 0,
 oc 56 5,
 o1 57 (.index 55 (.t 56)),
 o1 58 (.load 55 [(0,1)] 0 (.t 57) 1 false),
 o1 59 (.sli [.i .i64] [.t 58]),
 o5 (.app (some 54) 59) 60 54,
 ⟨false,[],[],.det 2 (.copy 60),[3,60,20],(some 3),none⟩]))))))
 (.rg [oc 18 5,
 o1 19 (.data (.bin .add) [.t 18,kD 1]),
 oc 5 19])))))))
 (.seq (.rg [o5 (.copy 3) 61 3,
 o1 62 (.len 61),
 o1 63 (.data (.bin .eql) [.t 62,kD 1]),
 oc 2 63])
 .ret)))))
def s_sl06Open:Sig:=⟨[.rd false Ct7],(.one false [.d])⟩
def E_sl06Open:TEnv:=envOf [(89,p_sl05In)]
def f_sl06Open (n:Nat):List (Int)->Option ((Bool) × Unit):=runFn n E_sl06Open c_sl06Open [[.sl [.i .i64]]] [.b] [] [2] .no
def g_sl06Open:=f_sl06Open BIG
def p_sl06Open:TSp:=⟨s_sl06Open,[[.sl [.i .i64]]],[.b],[],Ou.j .no,g_sl06Open⟩
theorem k_sl06Open:chkW PG E_sl06Open 108 s_sl06Open (c_sl06Open.ht 64) .no=some (c_sl06Open.wc E_sl06Open,[2]):=by kernel_rfl
theorem ok_sl06Open:p_sl06Open.Ok PG 108:=mkOk (env_cons ok_sl05In (env_nil PG)) k_sl06Open (by kernel_rfl)
theorem e_sl06Open (n) (a0):f_sl06Open n a0 =
 bnd a0.length (0:Int) fun n0=>
 Option.bind a0[n0]? fun y1=>
 bnd a0.length (0:Int) fun n2=>
 Option.bind a0[n2]? fun y3=>
 Option.bind (loopT n (X:=(List (Int)) × (List (Int)) × Int) (B:=((List (Int))) ⊕ (Bool)) (fun self5 x4=>
  bif decide (x4.2.2<(a0.length:Int)) then
   Option.bind (Option.bind (bif decide ((1:Int)<(x4.1.length:Int)) then
     bnd a0.length x4.2.2 fun n6=>
     Option.bind a0[n6]? fun y7=>
     bnd x4.1.length (IntKind.wrap .i64 ((x4.1.length:Int)-(2:Int))) fun n8=>
     Option.bind x4.1[n8]? fun y9=>
     some (decide (y7=y9))
    else some false:Option (Bool)) fun x10=>
    bif x10 then
     bif decide (0<=(IntKind.wrap .i64 ((x4.1.length:Int)-(1:Int)))) then
      bif decide (0<=(Int.toNat (IntKind.wrap .i64 ((x4.1.length:Int)-(1:Int))))/\(Int.toNat (IntKind.wrap .i64 ((x4.1.length:Int)-(1:Int))))<=x4.1.length) then
       some (Sum.inl (List.take ((Int.toNat (IntKind.wrap .i64 ((x4.1.length:Int)-(1:Int))))-0) (List.drop 0 x4.1),x4.2.1))
      else none
     else none
    else bnd a0.length x4.2.2 fun n11=>
    Option.bind a0[n11]? fun y12=>
    Option.bind (g_sl05In (x4.2.1,y12)) fun r13=>
    bif r13.1 then
     some (Sum.inr false)
    else bnd a0.length x4.2.2 fun n14=>
    Option.bind a0[n14]? fun y15=>
    bif decide (x4.2.1.length+[y15].length<=4294967296) then
     bnd a0.length x4.2.2 fun n16=>
     Option.bind a0[n16]? fun y17=>
     bif decide (x4.1.length+[y17].length<=4294967296) then
      some (Sum.inl (x4.1++[y17],x4.2.1++[y15]))
     else none
    else none:Option (((List (Int)) × (List (Int))) ⊕ (Bool))) fun y=>match y with
   | .inl x18=>
    self5 (x18.1,x18.2,IntKind.wrap .i64 (x4.2.2+(1:Int)))
   | .inr x18=>
    some (Sum.inr x18)
  else some (Sum.inl x4.1)) ([y1],[y3],(1:Int)):Option (((List (Int))) ⊕ (Bool))) fun y=>match y with
 | .inl x19=>
  some (decide ((x19.length:Int)=(1:Int)),())
 | .inr x19=>
  some (x19,()):=by kernel_rfl
def c_sTourOk:TC:=
 (.seq (.rg [o1 2 (.lit [.b] [.bool false])])
 (.seq (.seq (.rg [oc 4 0,
 o1 5 (.len 4),
 o3 6 54 [.t 5,kO 1,kO 23],
 o1 7 (.data .not [.t 6])])
 (.cond (.t 7)
 (.seq (.rg [o1 2 (.lit [.b] [.bool false])])
 .ret)
 .skip))
 (.seq (.join [] 1048332 (some [⟨2,[.b],false⟩]) (.seq (.rg [o1 3 (kL 0)])
 (.block 0 (.loop [⟨3,[.i .i64],false⟩] 1048332
 (.seq (.seq (.rg [oc 8 3,
 oc 9 0,
 o1 10 (.len 9),
 o1 11 (.data (.bin .lss) [.t 8,.t 10])])
 (.cond (.t 11)
 .skip
 (.exit 0)))
 (.seq (.block 1 (.seq (.rg [oc 14 0,
 oc 15 3,
 o1 16 (.index 14 (.t 15)),
 o1 17 (.load 14 [(0,1)] 0 (.t 16) 1 false),
 o3 18 54 [.t 17,kO 0,kO 11],
 o1 19 (.data .not [.t 18])])
 (.cond (.t 19)
 (.seq (.rg [o1 2 (.lit [.b] [.bool false])])
 .ret)
 .skip)))
 (.rg [oc 12 3,
 o1 13 (.data (.bin .add) [.t 12,kD 1]),
 oc 3 13])))))))
 (.seq (.rg [oc 20 0,
 o3 21 108 [.t 20],
 oc 2 21])
 .ret))))
def s_sTourOk:Sig:=⟨[.rd false Ct7],(.one false [.d])⟩
def E_sTourOk:TEnv:=envOf [(54,p_sl01In),(108,p_sl06Open)]
def f_sTourOk (n:Nat):List (Int)->Option ((Bool) × Unit):=runFn n E_sTourOk c_sTourOk [[.sl [.i .i64]]] [.b] [] [2] .no
def g_sTourOk:=f_sTourOk BIG
def p_sTourOk:TSp:=⟨s_sTourOk,[[.sl [.i .i64]]],[.b],[],Ou.j .no,g_sTourOk⟩
theorem k_sTourOk:chkW PG E_sTourOk 105 s_sTourOk (c_sTourOk.ht 22) .no=some (c_sTourOk.wc E_sTourOk,[2]):=by kernel_rfl
theorem ok_sTourOk:p_sTourOk.Ok PG 105:=mkOk (env_cons ok_sl01In (env_cons ok_sl06Open (env_nil PG))) k_sTourOk (by kernel_rfl)
theorem e_sTourOk (n) (a0):f_sTourOk n a0 =
 Option.bind (g_sl01In ((a0.length:Int),(1:Int),(23:Int))) fun r0=>
 bif !r0.1 then
  some (false,())
 else Option.bind (loopT n (X:=Int) (B:=(Unit) ⊕ (Bool)) (fun self2 x1=>
  bif decide (x1<(a0.length:Int)) then
   bnd a0.length x1 fun n3=>
   Option.bind a0[n3]? fun y4=>
   Option.bind (g_sl01In (y4,(0:Int),(11:Int))) fun r5=>
   bif !r5.1 then
    some (Sum.inr false)
   else self2 (IntKind.wrap .i64 (x1+(1:Int)))
  else some (Sum.inl ())) (0:Int):Option ((Unit) ⊕ (Bool))) fun y=>match y with
 | .inl x6=>
  Option.bind (g_sl06Open a0) fun r7=>
  some (r7.1,())
 | .inr x6=>
  some (x6,()):=by kernel_rfl
def c_sForestOk:TC:=
 (.seq (.rg [o1 1 (.a (.t 0)),
 o1 2 (.lit [.b] [.bool false])])
 (.seq (.seq (.join [⟨17,[.b],false⟩] 261888 none (.rg [oi 8,
 o1 9 (.load 1 [] 0 (.t 8) 1 false),
 o3 10 54 [.t 9,kO 1,kO 12],
 o1 11 (.data .not [.t 10]),
 oc 12 11,
 o2 13 (.idx .nil) 4 false,
 o2 14 (.load 1 [] 1 (.t 13) 1 false) 4 false,
 o2 15 (.len 14) 4 false,
 o2 16 (.data (.bin .gtr) [.t 15,kD 12]) 4 false,
 o7 12 (.c (.bool true)) (.t 16) 17]))
 (.cond (.t 17)
 (.seq (.rg [o1 2 (.lit [.b] [.bool false])])
 .ret)
 .skip))
 (.seq (.rg [o1 3 (kL 0)])
 (.seq (.join [⟨3,[.i .i64],false⟩] 2475880078570760549797986556 (some [⟨2,[.b],false⟩]) (.seq (.rg [o1 4 (kL 0)])
 (.block 0 (.loop [⟨3,[.i .i64],false⟩,⟨4,[.i .i64],false⟩] 2475880078570760549797986556
 (.seq (.seq (.rg [oc 18 4,
 oi 19,
 o1 20 (.load 1 [] 1 (.t 19) 1 false),
 o1 21 (.len 20),
 o1 22 (.data (.bin .lss) [.t 18,.t 21])])
 (.cond (.t 22)
 .skip
 (.exit 0)))
 (.seq (.join [⟨3,[.i .i64],false⟩] 2475880078570760549764694252 (some [⟨2,[.b],false⟩]) (.block 1 (.seq (.seq (.rg [oi 25,
 o1 26 (.load 1 [] 1 (.t 25) 1 false),
 oc 27 4,
 o1 28 (.index 26 (.t 27)),
 o1 29 (.load 26 [(0,1)] 0 (.t 28) 1 false),
 o3 30 105 [.t 29],
 o1 31 (.data .not [.t 30])])
 (.cond (.t 31)
 (.seq (.rg [o1 2 (.lit [.b] [.bool false])])
 .ret)
 .skip))
 (.seq (.rg [oi 32,
 o1 33 (.load 1 [] 1 (.t 32) 1 false),
 oc 34 4,
 o1 35 (.index 33 (.t 34)),
 o1 36 (.load 33 [(0,1)] 0 (.t 35) 1 false),
 o3 37 56 [.t 36],
 o5 (.copy 37) 5 37])
 (.seq (.rg [oc 38 3,
 o6 39 5,
 o1 40 (.len 39),
 o1 41 (.data (.bin .add) [.t 38,.t 40]),
 oc 3 41])
 (.seq (.seq (.join [⟨69,[.b],false⟩] 1180591616319364792320 none (.rg [o6 42 5,
 o6 43 5,
 o1 44 (.len 43),
 o1 45 (.data (.bin .sub) [.t 44,kD 1]),
 o1 46 (.index 42 (.t 45)),
 o1 47 (.load 5 [(0,1)] 0 (.t 46) 1 false),
 oi 48,
 o1 49 (.load 1 [] 0 (.t 48) 1 false),
 o1 50 (.data (.bin .geq) [.t 47,.t 49]),
 oc 51 50,
 o2 52 (.copy 4) 9 false,
 o2 53 (.data (.bin .gtr) [.t 52,kD 0]) 9 false,
 o2 54 (.copy 53) 9 false,
 o2 55 (.idx .nil) 12 true,
 o2 56 (.load 1 [] 1 (.t 55) 1 false) 12 true,
 o2 57 (.copy 4) 12 true,
 o2 58 (.data (.bin .sub) [.t 57,kD 1]) 12 true,
 o2 59 (.index 56 (.t 58)) 12 true,
 o2 60 (.load 56 [(0,1)] 0 (.t 59) 1 false) 12 true,
 ⟨false,[],[],.call 1 56 [.t 60] .no,[61],(some 61),some (12,true)⟩,
 o2 62 (.index 61 (kD 0)) 12 true,
 o2 63 (.load 61 [(0,1)] 0 (.t 62) 1 false) 12 true,
 ⟨true,[],[],.det 1 (.copy 5),[64],(some 64),some (12,true)⟩,
 o2 65 (.index 64 (kD 0)) 12 true,
 o2 66 (.load 5 [(0,1)] 0 (.t 65) 1 false) 12 true,
 o2 67 (.data (.bin .geq) [.t 63,.t 66]) 12 true,
 ⟨false,[],[],.pick 54 (.t 67) (.c (.bool false)),[68],(some 68),some (9,false)⟩,
 o7 51 (.c (.bool true)) (.t 68) 69]))
 (.cond (.t 69)
 (.seq (.rg [o1 2 (.lit [.b] [.bool false])])
 .ret)
 .skip))
 (.seq (.rg [o1 6 (kL 0)])
 (.block 2 (.loop [⟨6,[.i .i64],false⟩] 2475878897979139832386945220
 (.seq (.seq (.rg [oc 70 6,
 oc 71 4,
 o1 72 (.data (.bin .lss) [.t 70,.t 71])])
 (.cond (.t 72)
 .skip
 (.exit 2)))
 (.seq (.join [] 2475842299638897592636539012 (some [⟨2,[.b],false⟩]) (.block 3 (.seq (.rg [o1 7 (kL 0)])
 (.block 4 (.loop [⟨7,[.i .i64],false⟩] 2475842299638897592636539012
 (.seq (.seq (.rg [oc 75 7,
 o6 76 5,
 o1 77 (.len 76),
 o1 78 (.data (.bin .lss) [.t 75,.t 77])])
 (.cond (.t 78)
 .skip
 (.exit 4)))
 (.seq (.block 5 (.seq (.rg [oc 83 6,
 o6 86 5,
 oc 87 7,
 oi 81,
 o1 82 (.load 1 [] 1 (.t 81) 1 false),
 o1 84 (.index 82 (.t 83)),
 o1 85 (.load 82 [(0,1)] 0 (.t 84) 1 false),
 o1 88 (.index 86 (.t 87)),
 o1 89 (.load 5 [(0,1)] 0 (.t 88) 1 false),
 o3 90 89 [.t 85,.t 89]])
 (.cond (.t 90)
 (.seq (.rg [o1 2 (.lit [.b] [.bool false])])
 .ret)
 .skip)))
 (.rg [oc 79 7,
 o1 80 (.data (.bin .add) [.t 79,kD 1]),
 oc 7 80]))))))))
 (.rg [oc 73 6,
 o1 74 (.data (.bin .add) [.t 73,kD 1]),
 oc 6 74]))))))))))))
 (.rg [oc 23 4,
 o1 24 (.data (.bin .add) [.t 23,kD 1]),
 oc 4 24])))))))
 (.seq (.rg [oc 91 3,
 oi 92,
 o1 93 (.load 1 [] 0 (.t 92) 1 false),
 o1 94 (.data (.bin .eql) [.t 91,.t 93]),
 oc 2 94])
 .ret)))))
def s_sForestOk:Sig:=⟨[.rd true [.d,.sl (.own none) Ct7]],(.one false [.d])⟩
def E_sForestOk:TEnv:=envOf [(54,p_sl01In),(105,p_sTourOk),(56,p_sVertsOf),(89,p_sl05In)]
def f_sForestOk (n:Nat):(Int × List (List (Int)))->Option ((Bool) × Unit):=runFn n E_sForestOk c_sForestOk [Ty12] [.b] [] [2] .no
def g_sForestOk:=f_sForestOk BIG
def p_sForestOk:TSp:=⟨s_sForestOk,[Ty12],[.b],[],Ou.j .no,g_sForestOk⟩
theorem k_sForestOk:chkW PG E_sForestOk 91 s_sForestOk (c_sForestOk.ht 95) .no=some (c_sForestOk.wc E_sForestOk,[2]):=by kernel_rfl
theorem ok_sForestOk:p_sForestOk.Ok PG 91:=mkOk (env_cons ok_sl01In (env_cons ok_sTourOk (env_cons ok_sVertsOf (env_cons ok_sl05In (env_nil PG))))) k_sForestOk (by kernel_rfl)
theorem e_sForestOk (n) (a0):f_sForestOk n a0 =
 Option.bind (Option.bind (g_sl01In (a0.1,(1:Int),(12:Int))) fun r0=>
  bif !r0.1 then
   some true
  else some (decide ((12:Int)<(a0.2.length:Int))):Option (Bool)) fun x1=>
 bif x1 then
  some (false,())
 else Option.bind (loopT n (X:=Int × Int) (B:=(Int) ⊕ (Bool)) (fun self3 x2=>
  bif decide (x2.2<(a0.2.length:Int)) then
   Option.bind (bnd a0.2.length x2.2 fun n4=>
    Option.bind a0.2[n4]? fun y5=>
    Option.bind (g_sTourOk y5) fun r6=>
    bif !r6.1 then
     some (Sum.inr false)
    else bnd a0.2.length x2.2 fun n7=>
    Option.bind a0.2[n7]? fun y8=>
    Option.bind (g_sVertsOf y8) fun r9=>
    Option.bind (bnd r9.1.length (IntKind.wrap .i64 ((r9.1.length:Int)-(1:Int))) fun n10=>
     Option.bind r9.1[n10]? fun y11=>
     bif decide (a0.1<=y11) then
      some true
     else bif decide ((0:Int)<x2.2) then
      bnd a0.2.length (IntKind.wrap .i64 (x2.2-(1:Int))) fun n12=>
      Option.bind a0.2[n12]? fun y13=>
      Option.bind (g_sVertsOf y13) fun r14=>
      bnd r14.1.length (0:Int) fun n15=>
      Option.bind r14.1[n15]? fun y16=>
      bnd r9.1.length (0:Int) fun n17=>
      Option.bind r9.1[n17]? fun y18=>
      some (decide (y18<=y16))
     else some false:Option (Bool)) fun x19=>
    bif x19 then
     some (Sum.inr false)
    else loopT n (X:=Int) (B:=(Int) ⊕ (Bool)) (fun self21 x20=>
     bif decide (x20<x2.2) then
      Option.bind (loopT n (X:=Int) (B:=(Unit) ⊕ (Bool)) (fun self23 x22=>
       bif decide (x22<(r9.1.length:Int)) then
        bnd a0.2.length x20 fun n24=>
        Option.bind a0.2[n24]? fun y25=>
        bnd r9.1.length x22 fun n26=>
        Option.bind r9.1[n26]? fun y27=>
        Option.bind (g_sl05In (y25,y27)) fun r28=>
        bif r28.1 then
         some (Sum.inr false)
        else self23 (IntKind.wrap .i64 (x22+(1:Int)))
       else some (Sum.inl ())) (0:Int):Option ((Unit) ⊕ (Bool))) fun y=>match y with
      | .inl x29=>
       self21 (IntKind.wrap .i64 (x20+(1:Int)))
      | .inr x29=>
       some (Sum.inr x29)
     else some (Sum.inl (IntKind.wrap .i64 (x2.1+(r9.1.length:Int))))) (0:Int):Option ((Int) ⊕ (Bool))) fun y=>match y with
   | .inl x30=>
    self3 (x30,IntKind.wrap .i64 (x2.2+(1:Int)))
   | .inr x30=>
    some (Sum.inr x30)
  else some (Sum.inl x2.1)) ((0:Int),(0:Int)):Option ((Int) ⊕ (Bool))) fun y=>match y with
 | .inl x31=>
  some (decide (x31=a0.1),())
 | .inr x31=>
  some (x31,()):=by kernel_rfl
def c_sTreeOf:TC:=
 (.seq (.rg [o1 2 (.a (.t 0)),
 o1 4 (kL 0)])
 (.seq (.seq (.rg [o1 6 (.load 2 [] 0 .nil 2 false),
 o3 7 91 [.t 6],
 o1 8 (.data .not [.t 7])])
 (.cond (.t 8)
 (.seq (.rg [o1 4 (kL (-1))])
 .ret)
 .skip))
 (.seq (.join [] 16776752 (some [⟨4,[.i .i64],false⟩]) (.seq (.rg [o1 5 (kL 0)])
 (.block 0 (.loop [⟨5,[.i .i64],false⟩] 16776752
 (.seq (.seq (.rg [oc 9 5,
 oi 10,
 o1 11 (.load 2 [] 1 (.t 10) 1 false),
 o1 12 (.len 11),
 o1 13 (.data (.bin .lss) [.t 9,.t 12])])
 (.cond (.t 13)
 .skip
 (.exit 0)))
 (.seq (.block 1 (.seq (.rg [oi 16,
 o1 17 (.load 2 [] 1 (.t 16) 1 false),
 oc 18 5,
 o1 19 (.index 17 (.t 18)),
 o1 20 (.load 17 [(0,1)] 0 (.t 19) 1 false),
 oc 21 1,
 o3 22 89 [.t 20,.t 21]])
 (.cond (.t 22)
 (.seq (.rg [oc 23 5,
 oc 4 23])
 .ret)
 .skip)))
 (.rg [oc 14 5,
 o1 15 (.data (.bin .add) [.t 14,kD 1]),
 oc 5 15])))))))
 (.seq (.rg [o1 4 (kL (-1))])
 .ret))))
def s_sTreeOf:Sig:=⟨[.rd true [.d,.sl (.own none) Ct7],.rd false [.d]],(.one false [.d])⟩
def E_sTreeOf:TEnv:=envOf [(91,p_sForestOk),(89,p_sl05In)]
def f_sTreeOf (n:Nat):(Int × List (List (Int))) × Int->Option ((Int) × Unit):=runFn n E_sTreeOf c_sTreeOf [Ty12,[.i .i64]] [.i .i64] [] [4] .no
def g_sTreeOf:=f_sTreeOf BIG
def p_sTreeOf:TSp:=⟨s_sTreeOf,[Ty12,[.i .i64]],[.i .i64],[],Ou.j .no,g_sTreeOf⟩
theorem k_sTreeOf:chkW PG E_sTreeOf 57 s_sTreeOf (c_sTreeOf.ht 24) .no=some (c_sTreeOf.wc E_sTreeOf,[4]):=by kernel_rfl
theorem ok_sTreeOf:p_sTreeOf.Ok PG 57:=mkOk (env_cons ok_sForestOk (env_cons ok_sl05In (env_nil PG))) k_sTreeOf (by kernel_rfl)
theorem e_sTreeOf (n) (a0) (a1):f_sTreeOf n (a0,a1) =
 Option.bind (g_sForestOk a0) fun r0=>
 bif !r0.1 then
  some ((-1:Int),())
 else Option.bind (loopT n (X:=Int) (B:=(Unit) ⊕ (Int)) (fun self2 x1=>
  bif decide (x1<(a0.2.length:Int)) then
   bnd a0.2.length x1 fun n3=>
   Option.bind a0.2[n3]? fun y4=>
   Option.bind (g_sl05In (y4,a1)) fun r5=>
   bif r5.1 then
    some (Sum.inr x1)
   else self2 (IntKind.wrap .i64 (x1+(1:Int)))
  else some (Sum.inl ())) (0:Int):Option ((Unit) ⊕ (Int))) fun y=>match y with
 | .inl x6=>
  some ((-1:Int),())
 | .inr x6=>
  some (x6,()):=by kernel_rfl
def c_sWebOk:TC:=
 (.seq (.rg [o1 1 (.a (.t 0)),
 o1 2 (.lit [.b] [.bool false])])
 (.seq (.seq (.rg [o1 12 (.load 1 [] 0 .nil 2 false),
 o3 13 32 [.t 12],
 o3 14 41 [.t 13],
 o1 15 (.data .not [.t 14])])
 (.cond (.t 15)
 (.seq (.rg [o1 2 (.lit [.b] [.bool false])])
 .ret)
 .skip))
 (.seq (.join [] 2147418124 (some [⟨2,[.b],false⟩]) (.seq (.rg [o1 3 (kL 0)])
 (.block 0 (.loop [⟨3,[.i .i64],false⟩] 2147418124
 (.seq (.seq (.rg [oc 16 3,
 oi 17,
 o1 18 (.load 1 [] 1 (.t 17) 1 false),
 o1 19 (.len 18),
 o1 20 (.data (.bin .lss) [.t 16,.t 19])])
 (.cond (.t 20)
 .skip
 (.exit 0)))
 (.seq (.block 1 (.seq (.rg [oi 23,
 o1 24 (.load 1 [] 1 (.t 23) 1 false),
 oc 25 3,
 o1 26 (.index 24 (.t 25)),
 o1 27 (.idx (.t 26)),
 o1 28 (.load 24 [(0,4)] 2 (.t 27) 1 false),
 o3 29 54 [.t 28,kO 0,kO 4],
 o1 30 (.data .not [.t 29])])
 (.cond (.t 30)
 (.seq (.rg [o1 2 (.lit [.b] [.bool false])])
 .ret)
 .skip)))
 (.rg [oc 21 3,
 o1 22 (.data (.bin .add) [.t 21,kD 1]),
 oc 3 22])))))))
 (.seq (.rg [oi 31,
 o1 32 (.load 1 [] 0 (.t 31) 1 false),
 oc 4 32])
 (.seq (.join [] 1267650600228229401488113274868 (some [⟨2,[.b],false⟩]) (.seq (.rg [o1 5 (kL 0)])
 (.block 2 (.loop [⟨4,[.i .i64],false⟩,⟨5,[.i .i64],false⟩] 1267650600228229401488113274868
 (.seq (.seq (.rg [oc 33 5,
 o1 34 (.data (.bin .leq) [.t 33,kD 4])])
 (.cond (.t 34)
 .skip
 (.exit 2)))
 (.seq (.join [⟨4,[.i .i64],false⟩] 1267650600228229401359264255956 (some [⟨2,[.b],false⟩]) (.block 3 (.seq (.rg [o1 38 (.load 1 [] 0 .nil 2 false),
 oc 39 5,
 o3 40 55 [.t 38,.t 39],
 o5 (.copy 40) 37 40,
 o5 (.ext 37 0 2) 41 37,
 o1 42 (.ext 37 2 1),
 o5 (.a (.c Ty12 [kV 0,.slice none 0 0])) 6 1000000007,
 o4 2 [6,41] (.store 6 [] 0 .nil (.t 41)),
 oc 7 42])
 (.seq (.seq (.rg [oc 43 7,
 o1 44 (.data .not [.t 43])])
 (.cond (.t 44)
 (.seq (.rg [o1 2 (.lit [.b] [.bool false])])
 .ret)
 .skip))
 (.seq (.join [] 73786941110466118404 (some [⟨2,[.b],false⟩]) (.seq (.rg [o1 8 (kL 0)])
 (.block 4 (.loop [⟨8,[.i .i64],false⟩] 73786941110466118404
 (.seq (.seq (.rg [oc 45 8,
 oi 46,
 o1 47 (.load 6 [] 1 (.t 46) 1 true),
 o1 48 (.len 47),
 o1 49 (.data (.bin .lss) [.t 45,.t 48])])
 (.cond (.t 49)
 .skip
 (.exit 4)))
 (.seq (.join [] 73782472695210836484 (some [⟨2,[.b],false⟩]) (.block 5 (.seq (.rg [oi 52,
 o1 53 (.load 6 [] 1 (.t 52) 1 true),
 oc 54 8,
 o1 55 (.index 53 (.t 54)),
 o1 56 (.load 6 [(1,1)] 0 (.t 55) 1 false),
 o3 57 56 [.t 56],
 o1 58 (.len 57),
 oc 9 58])
 (.seq (.join [⟨65,[.b],false⟩] 73210515542534782976 none (.rg [oc 59 9,
 o1 60 (.data (.bin .gtr) [.t 59,kD 1]),
 oc 61 60,
 o2 62 (.copy 9) 2 true,
 o2 63 (.copy 4) 2 true,
 o2 64 (.data (.bin .gtr) [.t 62,.t 63]) 2 true,
 o7 61 (.t 64) (.c (.bool false)) 65]))
 (.cond (.t 65)
 (.seq (.rg [o1 2 (.lit [.b] [.bool false])])
 .ret)
 .skip)))))
 (.rg [oc 50 8,
 o1 51 (.data (.bin .add) [.t 50,kD 1]),
 oc 8 51])))))))
 (.seq (.join [] 316912649983270374079337597956 (some [⟨2,[.b],false⟩]) (.seq (.rg [o1 10 (kL 0)])
 (.block 6 (.loop [⟨10,[.i .i64],false⟩] 316912649983270374079337597956
 (.seq (.seq (.rg [oc 66 10,
 oi 67,
 o1 68 (.load 1 [] 1 (.t 67) 1 false),
 o1 69 (.len 68),
 o1 70 (.data (.bin .lss) [.t 66,.t 69])])
 (.cond (.t 70)
 .skip
 (.exit 6)))
 (.seq (.join [] 316912640612324384634885376004 (some [⟨2,[.b],false⟩]) (.block 7 (.seq (.rg [oi 73,
 o1 74 (.load 1 [] 1 (.t 73) 1 false),
 oc 75 10,
 o1 76 (.index 74 (.t 75)),
 o1 77 (.load 74 [(0,4)] 0 (.t 76) 4 false),
 o5 (.a (.c Ty11 [kV 0,kV 0,kV 0,.bool false])) 11 1000000012,
 o4 1 [11] (.store 11 [] 0 .nil (.t 77))])
 (.seq (.join [⟨97,[.b],false⟩] 316912347825602446716882124800 none (.rg [oi 78,
 o1 79 (.load 11 [] 3 (.t 78) 1 false),
 o1 80 (.data .not [.t 79]),
 oc 81 80,
 o2 82 (.idx .nil) 3 true,
 o2 83 (.load 11 [] 2 (.t 82) 1 false) 3 true,
 o2 84 (.copy 5) 3 true,
 o2 85 (.data (.bin .eql) [.t 83,.t 84]) 3 true,
 o7 81 (.t 85) (.c (.bool false)) 86,
 oc 87 86,
 o2 88 (.load 6 [] 0 .nil 2 true) 9 true,
 o2 89 (.idx .nil) 9 true,
 o2 90 (.load 11 [] 0 (.t 89) 1 false) 9 true,
 ⟨false,[],[],.call 1 57 [.t 88,.t 90] .no,[91],(some 91),some (9,true)⟩,
 o2 92 (.load 6 [] 0 .nil 2 true) 9 true,
 o2 93 (.idx .nil) 9 true,
 o2 94 (.load 11 [] 1 (.t 93) 1 false) 9 true,
 ⟨false,[],[],.call 1 57 [.t 92,.t 94] .no,[95],(some 95),some (9,true)⟩,
 o2 96 (.data (.bin .neq) [.t 91,.t 95]) 9 true,
 o7 87 (.t 96) (.c (.bool false)) 97]))
 (.cond (.t 97)
 (.seq (.rg [o1 2 (.lit [.b] [.bool false])])
 .ret)
 .skip)))))
 (.rg [oc 71 10,
 o1 72 (.data (.bin .add) [.t 71,kD 1]),
 oc 10 72])))))))
 (.rg [oc 98 4,
 o1 99 (.data (.bin .quo) [.t 98,kD 2]),
 oc 4 99])))))))
 (.rg [oc 35 5,
 o1 36 (.data (.bin .add) [.t 35,kD 1]),
 oc 5 36])))))))
 (.seq (.rg [o1 2 (.lit [.b] [.bool true])])
 .ret))))))
def s_sWebOk:Sig:=⟨[.rd true Ct4],(.one false [.d])⟩
def E_sWebOk:TEnv:=envOf [(32,p_sGraphOf),(41,p_sGraphOk),(54,p_sl01In),(55,p_sForestAt),(56,p_sVertsOf),(57,p_sTreeOf)]
def f_sWebOk (n:Nat):(Int × List (Int × Int × Int × Bool))->Option ((Bool) × Unit):=runFn n E_sWebOk c_sWebOk [Ty6] [.b] [] [2] .no
def g_sWebOk:=f_sWebOk BIG
def p_sWebOk:TSp:=⟨s_sWebOk,[Ty6],[.b],[],Ou.j .no,g_sWebOk⟩
theorem k_sWebOk:chkW PG E_sWebOk 15 s_sWebOk (c_sWebOk.ht 100) .no=some (c_sWebOk.wc E_sWebOk,[2]):=by kernel_rfl
theorem ok_sWebOk:p_sWebOk.Ok PG 15:=mkOk (env_cons ok_sGraphOf (env_cons ok_sGraphOk (env_cons ok_sl01In (env_cons ok_sForestAt (env_cons ok_sVertsOf (env_cons ok_sTreeOf (env_nil PG))))))) k_sWebOk (by kernel_rfl)
theorem e_sWebOk (n) (a0):f_sWebOk n a0 =
 Option.bind (g_sGraphOf a0) fun r0=>
 Option.bind (g_sGraphOk r0.1) fun r1=>
 bif !r1.1 then
  some (false,())
 else Option.bind (loopT n (X:=Int) (B:=(Unit) ⊕ (Bool)) (fun self3 x2=>
  bif decide (x2<(a0.2.length:Int)) then
   bnd a0.2.length x2 fun n4=>
   Option.bind a0.2[n4]? fun y5=>
   Option.bind (g_sl01In (y5.2.2.1,(0:Int),(4:Int))) fun r6=>
   bif !r6.1 then
    some (Sum.inr false)
   else self3 (IntKind.wrap .i64 (x2+(1:Int)))
  else some (Sum.inl ())) (0:Int):Option ((Unit) ⊕ (Bool))) fun y=>match y with
 | .inl x7=>
  Option.bind (loopT n (X:=Int × Int) (B:=(Unit) ⊕ (Bool)) (fun self9 x8=>
   bif decide (x8.2<=(4:Int)) then
    Option.bind (Option.bind (g_sForestAt (a0,x8.2)) fun r10=>
     bif !r10.1.2.2 then
      some (Sum.inr false)
     else Option.bind (loopT n (X:=Int) (B:=(Unit) ⊕ (Bool)) (fun self12 x11=>
      bif decide (x11<(r10.1.2.1.length:Int)) then
       Option.bind (bnd r10.1.2.1.length x11 fun n13=>
        Option.bind r10.1.2.1[n13]? fun y14=>
        Option.bind (g_sVertsOf y14) fun r15=>
        Option.bind (bif decide ((1:Int)<(r15.1.length:Int)) then
         some (decide (x8.1<(r15.1.length:Int)))
         else some false:Option (Bool)) fun x16=>
        bif x16 then
         some (Sum.inr false)
        else some (Sum.inl ()):Option ((Unit) ⊕ (Bool))) fun y=>match y with
       | .inl x17=>
        self12 (IntKind.wrap .i64 (x11+(1:Int)))
       | .inr x17=>
        some (Sum.inr x17)
      else some (Sum.inl ())) (0:Int):Option ((Unit) ⊕ (Bool))) fun y=>match y with
     | .inl x18=>
      Option.bind (loopT n (X:=Int) (B:=(Unit) ⊕ (Bool)) (fun self20 x19=>
       bif decide (x19<(a0.2.length:Int)) then
        Option.bind (bnd a0.2.length x19 fun n21=>
         Option.bind a0.2[n21]? fun y22=>
         Option.bind (bif !y22.2.2.2 then
          bif decide (y22.2.2.1=x8.2) then
           Option.bind (g_sTreeOf ((r10.1.1,r10.1.2.1),y22.1)) fun r23=>
           Option.bind (g_sTreeOf ((r10.1.1,r10.1.2.1),y22.2.1)) fun r24=>
           some (!decide (r23.1=r24.1))
          else some false
          else some false:Option (Bool)) fun x25=>
         bif x25 then
          some (Sum.inr false)
         else some (Sum.inl ()):Option ((Unit) ⊕ (Bool))) fun y=>match y with
        | .inl x26=>
         self20 (IntKind.wrap .i64 (x19+(1:Int)))
        | .inr x26=>
         some (Sum.inr x26)
       else some (Sum.inl ())) (0:Int):Option ((Unit) ⊕ (Bool))) fun y=>match y with
      | .inl x27=>
       bif decide ((2:Int)=0) then
        none
       else some (Sum.inl (IntKind.wrap .i64 (Int.tdiv x8.1 (2:Int))))
      | .inr x27=>
       some (Sum.inr x27)
     | .inr x18=>
      some (Sum.inr x18):Option ((Int) ⊕ (Bool))) fun y=>match y with
    | .inl x28=>
     self9 (x28,IntKind.wrap .i64 (x8.2+(1:Int)))
    | .inr x28=>
     some (Sum.inr x28)
   else some (Sum.inl ())) (a0.1,(0:Int)):Option ((Unit) ⊕ (Bool))) fun y=>match y with
  | .inl x29=>
   some (true,())
  | .inr x29=>
   some (x29,())
 | .inr x7=>
  some (x7,()):=by kernel_rfl
def c_sl05SameEdges:TC:=
 (.seq (.rg [o1 4 (.lit [.b] [.bool false])])
 (.seq (.seq (.rg [oc 6 0,
 o1 7 (.len 6),
 oc 8 1,
 o1 9 (.len 8),
 o1 10 (.data (.bin .neq) [.t 7,.t 9])])
 (.cond (.t 10)
 (.seq (.rg [o1 4 (.lit [.b] [.bool false])])
 .ret)
 .skip))
 (.seq (.join [] 67106864 (some [⟨4,[.b],false⟩]) (.seq (.rg [o1 5 (kL 0)])
 (.block 0 (.loop [⟨5,[.i .i64],false⟩] 67106864
 (.seq (.seq (.rg [oc 11 5,
 oc 12 0,
 o1 13 (.len 12),
 o1 14 (.data (.bin .lss) [.t 11,.t 13])])
 (.cond (.t 14)
 .skip
 (.exit 0)))
 (.seq (.block 1 (.seq (.rg [oc 17 0,
 oc 18 5,
 oc 21 1,
 oc 22 5,
 o1 19 (.index 17 (.t 18)),
 o1 20 (.load 17 [(0,2)] 0 (.t 19) 2 false),
 o1 23 (.index 21 (.t 22)),
 o1 24 (.load 21 [(0,2)] 0 (.t 23) 2 false),
 o1 25 (.eqA [.i,.i] (.t 20) (.t 24) true)])
 (.cond (.t 25)
 (.seq (.rg [o1 4 (.lit [.b] [.bool false])])
 .ret)
 .skip)))
 (.rg [oc 15 5,
 o1 16 (.data (.bin .add) [.t 15,kD 1]),
 oc 5 16])))))))
 (.seq (.rg [o1 4 (.lit [.b] [.bool true])])
 .ret))))
def s_sl05SameEdges:Sig:=⟨[.rd false Ct6,.rd false Ct6],(.one false [.d])⟩
def E_sl05SameEdges:TEnv:=envOf []
def f_sl05SameEdges (n:Nat):(List (Int × Int)) × (List (Int × Int))->Option ((Bool) × Unit):=runFn n E_sl05SameEdges c_sl05SameEdges [[.sl [.i .i64,.i .i64]],[.sl [.i .i64,.i .i64]]] [.b] [] [4] .no
def g_sl05SameEdges:=f_sl05SameEdges BIG
def p_sl05SameEdges:TSp:=⟨s_sl05SameEdges,[[.sl [.i .i64,.i .i64]],[.sl [.i .i64,.i .i64]]],[.b],[],Ou.j .no,g_sl05SameEdges⟩
theorem k_sl05SameEdges:chkW PG E_sl05SameEdges 109 s_sl05SameEdges (c_sl05SameEdges.ht 26) .no=some (c_sl05SameEdges.wc E_sl05SameEdges,[4]):=by kernel_rfl
theorem ok_sl05SameEdges:p_sl05SameEdges.Ok PG 109:=mkOk (env_nil PG) k_sl05SameEdges (by kernel_rfl)
theorem e_sl05SameEdges (n) (a0) (a1):f_sl05SameEdges n (a0,a1) =
 bif !decide ((a0.length:Int)=(a1.length:Int)) then
  some (false,())
 else Option.bind (loopT n (X:=Int) (B:=(Unit) ⊕ (Bool)) (fun self1 x0=>
  bif decide (x0<(a0.length:Int)) then
   bnd a0.length x0 fun n2=>
   Option.bind a0[n2]? fun y3=>
   bnd a1.length x0 fun n4=>
   Option.bind a1[n4]? fun y5=>
   bif !(decide (y3.1=y5.1)&&(decide (y3.2=y5.2)&&true)) then
    some (Sum.inr false)
   else self1 (IntKind.wrap .i64 (x0+(1:Int)))
  else some (Sum.inl ())) (0:Int):Option ((Unit) ⊕ (Bool))) fun y=>match y with
 | .inl x6=>
  some (true,())
 | .inr x6=>
  some (x6,()):=by kernel_rfl
def c_sl05SameInts:TC:=
 (.seq (.rg [o1 4 (.lit [.b] [.bool false])])
 (.seq (.seq (.rg [oc 6 0,
 o1 7 (.len 6),
 oc 8 1,
 o1 9 (.len 8),
 o1 10 (.data (.bin .neq) [.t 7,.t 9])])
 (.cond (.t 10)
 (.seq (.rg [o1 4 (.lit [.b] [.bool false])])
 .ret)
 .skip))
 (.seq (.join [] 67106864 (some [⟨4,[.b],false⟩]) (.seq (.rg [o1 5 (kL 0)])
 (.block 0 (.loop [⟨5,[.i .i64],false⟩] 67106864
 (.seq (.seq (.rg [oc 11 5,
 oc 12 0,
 o1 13 (.len 12),
 o1 14 (.data (.bin .lss) [.t 11,.t 13])])
 (.cond (.t 14)
 .skip
 (.exit 0)))
 (.seq (.block 1 (.seq (.rg [oc 17 0,
 oc 18 5,
 oc 21 1,
 oc 22 5,
 o1 19 (.index 17 (.t 18)),
 o1 20 (.load 17 [(0,1)] 0 (.t 19) 1 false),
 o1 23 (.index 21 (.t 22)),
 o1 24 (.load 21 [(0,1)] 0 (.t 23) 1 false),
 o1 25 (.data (.bin .neq) [.t 20,.t 24])])
 (.cond (.t 25)
 (.seq (.rg [o1 4 (.lit [.b] [.bool false])])
 .ret)
 .skip)))
 (.rg [oc 15 5,
 o1 16 (.data (.bin .add) [.t 15,kD 1]),
 oc 5 16])))))))
 (.seq (.rg [o1 4 (.lit [.b] [.bool true])])
 .ret))))
def s_sl05SameInts:Sig:=⟨[.rd false Ct7,.rd false Ct7],(.one false [.d])⟩
def E_sl05SameInts:TEnv:=envOf []
def f_sl05SameInts (n:Nat):List (Int) × List (Int)->Option ((Bool) × Unit):=runFn n E_sl05SameInts c_sl05SameInts [[.sl [.i .i64]],[.sl [.i .i64]]] [.b] [] [4] .no
def g_sl05SameInts:=f_sl05SameInts BIG
def p_sl05SameInts:TSp:=⟨s_sl05SameInts,[[.sl [.i .i64]],[.sl [.i .i64]]],[.b],[],Ou.j .no,g_sl05SameInts⟩
theorem k_sl05SameInts:chkW PG E_sl05SameInts 99 s_sl05SameInts (c_sl05SameInts.ht 26) .no=some (c_sl05SameInts.wc E_sl05SameInts,[4]):=by kernel_rfl
theorem ok_sl05SameInts:p_sl05SameInts.Ok PG 99:=mkOk (env_nil PG) k_sl05SameInts (by kernel_rfl)
theorem e_sl05SameInts (n) (a0) (a1):f_sl05SameInts n (a0,a1) =
 bif !decide ((a0.length:Int)=(a1.length:Int)) then
  some (false,())
 else Option.bind (loopT n (X:=Int) (B:=(Unit) ⊕ (Bool)) (fun self1 x0=>
  bif decide (x0<(a0.length:Int)) then
   bnd a0.length x0 fun n2=>
   Option.bind a0[n2]? fun y3=>
   bnd a1.length x0 fun n4=>
   Option.bind a1[n4]? fun y5=>
   bif !decide (y3=y5) then
    some (Sum.inr false)
   else self1 (IntKind.wrap .i64 (x0+(1:Int)))
  else some (Sum.inl ())) (0:Int):Option ((Unit) ⊕ (Bool))) fun y=>match y with
 | .inl x6=>
  some (true,())
 | .inr x6=>
  some (x6,()):=by kernel_rfl
def c_sl09SameAnswer:TC:=
 (.seq (.rg [o1 2 (.a (.t 0)),
 o1 3 (.a (.t 1)),
 o1 4 (.lit [.b] [.bool false])])
 (.seq (.join [⟨4,[.b],false⟩] 2147483632 none (.rg [oi 5,
 o1 6 (.load 2 [] 0 (.t 5) 1 false),
 oi 7,
 o1 8 (.load 3 [] 0 (.t 7) 1 false),
 o1 9 (.data (.bin .eql) [.t 6,.t 8]),
 oc 10 9,
 o2 11 (.idx .nil) 5 true,
 o2 12 (.load 2 [] 1 (.t 11) 1 false) 5 true,
 o2 13 (.idx .nil) 5 true,
 o2 14 (.load 3 [] 1 (.t 13) 1 false) 5 true,
 o2 15 (.data (.beq false) [.t 12,.t 14]) 5 true,
 o7 10 (.t 15) (.c (.bool false)) 16,
 oc 17 16,
 o2 18 (.idx .nil) 12 true,
 o2 19 (.load 2 [] 2 (.t 18) 1 false) 12 true,
 o2 20 (.idx .nil) 12 true,
 o2 21 (.load 3 [] 2 (.t 20) 1 false) 12 true,
 ⟨false,[],[],.call 1 109 [.t 19,.t 21] .no,[22],(some 22),some (12,true)⟩,
 o7 17 (.t 22) (.c (.bool false)) 23,
 oc 24 23,
 o2 25 (.idx .nil) 19 true,
 o2 26 (.load 2 [] 3 (.t 25) 1 false) 19 true,
 o2 27 (.idx .nil) 19 true,
 o2 28 (.load 3 [] 3 (.t 27) 1 false) 19 true,
 ⟨false,[],[],.call 1 99 [.t 26,.t 28] .no,[29],(some 29),some (19,true)⟩,
 o7 24 (.t 29) (.c (.bool false)) 30,
 oc 4 30]))
 .ret))
def s_sl09SameAnswer:Sig:=⟨[.rd true Ct1,.rd true Ct1],(.one false [.d])⟩
def E_sl09SameAnswer:TEnv:=envOf [(109,p_sl05SameEdges),(99,p_sl05SameInts)]
def f_sl09SameAnswer (n:Nat):(Int × Bool × List (Int × Int) × List (Int)) × (Int × Bool × List (Int × Int) × List (Int))->Option ((Bool) × Unit):=runFn n E_sl09SameAnswer c_sl09SameAnswer [Ty3,Ty3] [.b] [] [4] .no
def g_sl09SameAnswer:=f_sl09SameAnswer BIG
def p_sl09SameAnswer:TSp:=⟨s_sl09SameAnswer,[Ty3,Ty3],[.b],[],Ou.j .no,g_sl09SameAnswer⟩
theorem k_sl09SameAnswer:chkW PG E_sl09SameAnswer 106 s_sl09SameAnswer (c_sl09SameAnswer.ht 31) .no=some (c_sl09SameAnswer.wc E_sl09SameAnswer,[4]):=by kernel_rfl
theorem ok_sl09SameAnswer:p_sl09SameAnswer.Ok PG 106:=mkOk (env_cons ok_sl05SameEdges (env_cons ok_sl05SameInts (env_nil PG))) k_sl09SameAnswer (by kernel_rfl)
theorem e_sl09SameAnswer (n) (a0) (a1):f_sl09SameAnswer n (a0,a1) =
 Option.bind (bif decide (a0.1=a1.1) then
 bif (a0.2.1 == a1.2.1) then
 Option.bind (g_sl05SameEdges (a0.2.2.1,a1.2.2.1)) fun r0=>
 bif r0.1 then
 Option.bind (g_sl05SameInts (a0.2.2.2,a1.2.2.2)) fun r1=>
 some r1.1
 else some false
 else some false
 else some false:Option (Bool)) fun x2=>
 some (x2,()):=by kernel_rfl
def c_sl10Blank:TC:=
 (.seq (.rg [o1 1 (.a (.t 0)),
 o1 2 (.lit [.b] [.bool false])])
 (.seq (.rg [o1 3 (.load 1 [] 0 .nil 4 false),
 o1 4 (.build Ty3 []),
 o3 5 106 [.t 3,.t 4],
 oc 2 5])
 .ret))
def s_sl10Blank:Sig:=⟨[.rd true Ct1],(.one false [.d])⟩
def E_sl10Blank:TEnv:=envOf [(106,p_sl09SameAnswer)]
def f_sl10Blank (n:Nat):(Int × Bool × List (Int × Int) × List (Int))->Option ((Bool) × Unit):=runFn n E_sl10Blank c_sl10Blank [Ty3] [.b] [] [2] .no
def g_sl10Blank:=f_sl10Blank BIG
def p_sl10Blank:TSp:=⟨s_sl10Blank,[Ty3],[.b],[],Ou.j .no,g_sl10Blank⟩
theorem k_sl10Blank:chkW PG E_sl10Blank 97 s_sl10Blank (c_sl10Blank.ht 6) .no=some (c_sl10Blank.wc E_sl10Blank,[2]):=by kernel_rfl
theorem ok_sl10Blank:p_sl10Blank.Ok PG 97:=mkOk (env_cons ok_sl09SameAnswer (env_nil PG)) k_sl10Blank (by kernel_rfl)
theorem e_sl10Blank (n) (a0):f_sl10Blank n a0 =
 Option.bind (g_sl09SameAnswer (a0,((0:Int),false,[],[]))) fun r0=>
 some (r0.1,()):=by kernel_rfl
def c_sl09Labels:TC:=
 (.seq (.rg [o1 4 (.lit [.b] [.bool false])])
 (.seq (.seq (.rg [oc 6 1,
 o1 7 (.len 6),
 oc 8 0,
 o1 9 (.data (.bin .neq) [.t 7,.t 8])])
 (.cond (.t 9)
 (.seq (.rg [o1 4 (.lit [.b] [.bool false])])
 .ret)
 .skip))
 (.seq (.join [] 68719475760 (some [⟨4,[.b],false⟩]) (.seq (.rg [o1 5 (kL 0)])
 (.block 0 (.loop [⟨5,[.i .i64],false⟩] 68719475760
 (.seq (.seq (.rg [oc 10 5,
 oc 11 0,
 o1 12 (.data (.bin .lss) [.t 10,.t 11])])
 (.cond (.t 12)
 .skip
 (.exit 0)))
 (.seq (.join [] 68719443984 (some [⟨4,[.b],false⟩]) (.block 1 (.seq (.join [⟨35,[.b],false⟩] 68719443968 none (.rg [oc 15 1,
 oc 16 5,
 oc 19 5,
 o1 17 (.index 15 (.t 16)),
 o1 18 (.load 15 [(0,1)] 0 (.t 17) 1 false),
 o3 20 54 [.t 18,kO 0,.t 19],
 o1 21 (.data .not [.t 20]),
 oc 22 21,
 o2 23 (.copy 1) 7 false,
 o2 24 (.copy 1) 7 false,
 o2 25 (.copy 5) 7 false,
 o2 26 (.index 24 (.t 25)) 7 false,
 o2 27 (.load 24 [(0,1)] 0 (.t 26) 1 false) 7 false,
 o2 28 (.index 23 (.t 27)) 7 false,
 o2 29 (.load 23 [(0,1)] 0 (.t 28) 1 false) 7 false,
 o2 30 (.copy 1) 7 false,
 o2 31 (.copy 5) 7 false,
 o2 32 (.index 30 (.t 31)) 7 false,
 o2 33 (.load 30 [(0,1)] 0 (.t 32) 1 false) 7 false,
 o2 34 (.data (.bin .neq) [.t 29,.t 33]) 7 false,
 o7 22 (.c (.bool true)) (.t 34) 35]))
 (.cond (.t 35)
 (.seq (.rg [o1 4 (.lit [.b] [.bool false])])
 .ret)
 .skip))))
 (.rg [oc 13 5,
 o1 14 (.data (.bin .add) [.t 13,kD 1]),
 oc 5 14])))))))
 (.seq (.rg [o1 4 (.lit [.b] [.bool true])])
 .ret))))
def s_sl09Labels:Sig:=⟨[.rd false [.d],.rd false Ct7],(.one false [.d])⟩
def E_sl09Labels:TEnv:=envOf [(54,p_sl01In)]
def f_sl09Labels (n:Nat):Int × List (Int)->Option ((Bool) × Unit):=runFn n E_sl09Labels c_sl09Labels [[.i .i64],[.sl [.i .i64]]] [.b] [] [4] .no
def g_sl09Labels:=f_sl09Labels BIG
def p_sl09Labels:TSp:=⟨s_sl09Labels,[[.i .i64],[.sl [.i .i64]]],[.b],[],Ou.j .no,g_sl09Labels⟩
theorem k_sl09Labels:chkW PG E_sl09Labels 107 s_sl09Labels (c_sl09Labels.ht 36) .no=some (c_sl09Labels.wc E_sl09Labels,[4]):=by kernel_rfl
theorem ok_sl09Labels:p_sl09Labels.Ok PG 107:=mkOk (env_cons ok_sl01In (env_nil PG)) k_sl09Labels (by kernel_rfl)
theorem e_sl09Labels (n) (a0) (a1):f_sl09Labels n (a0,a1) =
 bif !decide ((a1.length:Int)=a0) then
  some (false,())
 else Option.bind (loopT n (X:=Int) (B:=(Unit) ⊕ (Bool)) (fun self1 x0=>
  bif decide (x0<a0) then
   Option.bind (Option.bind (bnd a1.length x0 fun n2=>
    Option.bind a1[n2]? fun y3=>
    Option.bind (g_sl01In (y3,(0:Int),x0)) fun r4=>
    bif !r4.1 then
     some true
    else bnd a1.length x0 fun n5=>
    Option.bind a1[n5]? fun y6=>
    bnd a1.length y6 fun n7=>
    Option.bind a1[n7]? fun y8=>
    bnd a1.length x0 fun n9=>
    Option.bind a1[n9]? fun y10=>
    some (!decide (y8=y10)):Option (Bool)) fun x11=>
    bif x11 then
     some (Sum.inr false)
    else some (Sum.inl ()):Option ((Unit) ⊕ (Bool))) fun y=>match y with
   | .inl x12=>
    self1 (IntKind.wrap .i64 (x0+(1:Int)))
   | .inr x12=>
    some (Sum.inr x12)
  else some (Sum.inl ())) (0:Int):Option ((Unit) ⊕ (Bool))) fun y=>match y with
 | .inl x13=>
  some (true,())
 | .inr x13=>
  some (x13,()):=by kernel_rfl
def c_sAnswerOk:TC:=
 (.seq (.rg [o1 3 (.a (.t 1)),
 o1 4 (.lit [.b] [.bool false])])
 (.seq (.join [⟨4,[.b],false⟩] 16777200 none (.rg [oc 5 0,
 o3 6 54 [.t 5,kO 1,kO 12],
 oc 7 6,
 o2 8 (.idx .nil) 2 true,
 o2 9 (.load 3 [] 0 (.t 8) 1 false) 2 true,
 ⟨false,[],[],.call 1 54 [.t 9,kO 1,kO 100000] .no,[10],(some 10),some (2,true)⟩,
 o7 7 (.t 10) (.c (.bool false)) 11,
 oc 12 11,
 o2 13 (.copy 0) 7 true,
 o2 14 (.idx .nil) 7 true,
 o2 15 (.load 3 [] 2 (.t 14) 1 false) 7 true,
 ⟨false,[],[],.call 1 80 [.t 13,.t 15] .no,[16],(some 16),some (7,true)⟩,
 o7 12 (.t 16) (.c (.bool false)) 17,
 oc 18 17,
 o2 19 (.copy 0) 13 true,
 o2 20 (.idx .nil) 13 true,
 o2 21 (.load 3 [] 3 (.t 20) 1 false) 13 true,
 ⟨false,[],[],.call 1 107 [.t 19,.t 21] .no,[22],(some 22),some (13,true)⟩,
 o7 18 (.t 22) (.c (.bool false)) 23,
 oc 4 23]))
 .ret))
def s_sAnswerOk:Sig:=⟨[.rd false [.d],.rd true Ct1],(.one false [.d])⟩
def E_sAnswerOk:TEnv:=envOf [(54,p_sl01In),(80,p_sl05Edges),(107,p_sl09Labels)]
def f_sAnswerOk (n:Nat):Int × (Int × Bool × List (Int × Int) × List (Int))->Option ((Bool) × Unit):=runFn n E_sAnswerOk c_sAnswerOk [[.i .i64],Ty3] [.b] [] [4] .no
def g_sAnswerOk:=f_sAnswerOk BIG
def p_sAnswerOk:TSp:=⟨s_sAnswerOk,[[.i .i64],Ty3],[.b],[],Ou.j .no,g_sAnswerOk⟩
theorem k_sAnswerOk:chkW PG E_sAnswerOk 98 s_sAnswerOk (c_sAnswerOk.ht 24) .no=some (c_sAnswerOk.wc E_sAnswerOk,[4]):=by kernel_rfl
theorem ok_sAnswerOk:p_sAnswerOk.Ok PG 98:=mkOk (env_cons ok_sl01In (env_cons ok_sl05Edges (env_cons ok_sl09Labels (env_nil PG)))) k_sAnswerOk (by kernel_rfl)
theorem e_sAnswerOk (n) (a0) (a1):f_sAnswerOk n (a0,a1) =
 Option.bind (Option.bind (g_sl01In (a0,(1:Int),(12:Int))) fun r0=>
 bif r0.1 then
 Option.bind (g_sl01In (a1.1,(1:Int),(100000:Int))) fun r1=>
 bif r1.1 then
 Option.bind (g_sl05Edges (a0,a1.2.2.1)) fun r2=>
 bif r2.1 then
 Option.bind (g_sl09Labels (a0,a1.2.2.2)) fun r3=>
 some r3.1
 else some false
 else some false
 else some false:Option (Bool)) fun x4=>
 some (x4,()):=by kernel_rfl
def c_sWebLabels:TC:=
 (.seq (.rg [o1 1 (.a (.t 0)),
 o1 2 (.lit [.sl [.i .i64]] [.slice none 0 0])])
 (.seq (.rg [o1 7 (.sli [.i .i64] []),
 o5 (.copy 7) 3 7])
 (.seq (.seq (.rg [o1 8 (.load 1 [] 0 .nil 2 false),
 o3 9 15 [.t 8],
 o1 10 (.data .not [.t 9])])
 (.cond (.t 10)
 (.seq (.rg [o5 (.copy 3) 11 3,
 o5 (.copy 11) 2 11])
 .ret)
 .skip))
 (.seq (.rg [o1 13 (.load 1 [] 0 .nil 2 false),
 o3 14 55 [.t 13,kO 0],
 o5 (.copy 14) 12 14,
 o5 (.ext 12 0 2) 15 12,
 o1 16 (.ext 12 2 1),
 o5 (.a (.c Ty12 [kV 0,.slice none 0 0])) 4 1000000005,
 o4 2 [4,15] (.store 4 [] 0 .nil (.t 15)),
 oc 5 16])
 (.seq (.join [⟨3,[.sl [.i .i64]],false⟩] 68719345736 none (.seq (.rg [o1 6 (kL 0)])
 (.block 0 (.loop [⟨3,[.sl [.i .i64]],false⟩,⟨6,[.i .i64],false⟩] 68719345736
 (.seq (.seq (.rg [oc 17 6,
 oi 18,
 o1 19 (.load 1 [] 0 (.t 18) 1 false),
 o1 20 (.data (.bin .lss) [.t 17,.t 19])])
 (.cond (.t 20)
 .skip
 (.exit 0)))
 (.seq (.block 1 (.rg [o5 (.copy 3) 23 3,
 oc 27 6,
 oi 24,
 o1 25 (.load 4 [] 1 (.t 24) 1 true),
 o1 26 (.load 4 [] 0 .nil 2 true),
 o3 28 57 [.t 26,.t 27],
 o1 29 (.index 25 (.t 28)),
 o1 30 (.load 4 [(1,1)] 0 (.t 29) 1 false),
 o3 31 56 [.t 30],
 o1 32 (.index 31 (kD 0)),
 o1 33 (.load 31 [(0,1)] 0 (.t 32) 1 false),
 o1 34 (.sli [.i .i64] [.t 33]),
 o5 (.app (some 23) 34) 35 23,
 o5 (.copy 35) 3 35]))
 (.rg [oc 21 6,
 o1 22 (.data (.bin .add) [.t 21,kD 1]),
 oc 6 22])))))))
 (.seq (.rg [o5 (.copy 3) 36 3,
 o5 (.copy 36) 2 36])
 .ret))))))
def s_sWebLabels:Sig:=⟨[.rd true Ct4],(.one false Ct7)⟩
def E_sWebLabels:TEnv:=envOf [(15,p_sWebOk),(55,p_sForestAt),(57,p_sTreeOf),(56,p_sVertsOf)]
def f_sWebLabels (n:Nat):(Int × List (Int × Int × Int × Bool))->Option ((List (Int)) × Unit):=runFn n E_sWebLabels c_sWebLabels [Ty6] [.sl [.i .i64]] [] [2] .no
def g_sWebLabels:=f_sWebLabels BIG
def p_sWebLabels:TSp:=⟨s_sWebLabels,[Ty6],[.sl [.i .i64]],[],Ou.j .no,g_sWebLabels⟩
theorem k_sWebLabels:chkW PG E_sWebLabels 28 s_sWebLabels (c_sWebLabels.ht 37) .no=some (c_sWebLabels.wc E_sWebLabels,[2]):=by kernel_rfl
theorem ok_sWebLabels:p_sWebLabels.Ok PG 28:=mkOk (env_cons ok_sWebOk (env_cons ok_sForestAt (env_cons ok_sTreeOf (env_cons ok_sVertsOf (env_nil PG))))) k_sWebLabels (by kernel_rfl)
theorem e_sWebLabels (n) (a0):f_sWebLabels n a0 =
 Option.bind (g_sWebOk a0) fun r0=>
 bif !r0.1 then
 some ([],())
 else Option.bind (g_sForestAt (a0,(0:Int))) fun r1=>
 Option.bind (loopT n (X:=(List (Int)) × Int) (B:=(List (Int))) (fun self3 x2=>
 bif decide (x2.2<a0.1) then
 Option.bind (g_sTreeOf ((r1.1.1,r1.1.2.1),x2.2)) fun r4=>
 bnd r1.1.2.1.length r4.1 fun n5=>
 Option.bind r1.1.2.1[n5]? fun y6=>
 Option.bind (g_sVertsOf y6) fun r7=>
 bnd r7.1.length (0:Int) fun n8=>
 Option.bind r7.1[n8]? fun y9=>
 bif decide (x2.1.length+[y9].length<=4294967296) then
 self3 (x2.1++[y9],IntKind.wrap .i64 (x2.2+(1:Int)))
 else none
 else some x2.1) ([],(0:Int)):Option ((List (Int)))) fun x10=>
 some (x10,()):=by kernel_rfl
def c_sShardOk:TC:=
 (.seq (.rg [o1 1 (.a (.t 0)),
 o1 2 (.lit [.b] [.bool false])])
 (.seq (.seq (.join [⟨12,[.b],false⟩] 8184 none (.rg [oi 3,
 o1 4 (.load 1 [] 0 (.t 3) 1 false),
 o3 5 54 [.t 4,kO 1,kO 3],
 o1 6 (.data .not [.t 5]),
 oc 7 6,
 o2 8 (.idx .nil) 4 false,
 o2 9 (.load 1 [] 1 (.t 8) 2 false) 4 false,
 ⟨false,[],[],.call 1 15 [.t 9] .no,[10],(some 10),some (4,false)⟩,
 o2 11 (.data .not [.t 10]) 4 false,
 o7 7 (.c (.bool true)) (.t 11) 12]))
 (.cond (.t 12)
 (.seq (.rg [o1 2 (.lit [.b] [.bool false])])
 .ret)
 .skip))
 (.seq (.join [⟨2,[.b],false⟩] 8589926404 none (.rg [oi 13,
 o1 14 (.load 1 [] 3 (.t 13) 4 false),
 o3 15 97 [.t 14],
 oc 16 15,
 o2 17 (.idx .nil) 3 false,
 o2 18 (.idx (.t 17)) 3 false,
 o2 19 (.load 1 [] 1 (.t 18) 1 false) 3 false,
 o2 20 (.idx .nil) 3 false,
 o2 21 (.load 1 [] 3 (.t 20) 4 false) 3 false,
 ⟨false,[],[],.call 1 98 [.t 19,.t 21] .no,[22],(some 22),some (3,false)⟩,
 o2 23 (.copy 22) 3 false,
 o2 24 (.idx .nil) 10 true,
 o2 25 (.idx (.t 24)) 10 true,
 o2 26 (.load 1 [] 6 (.t 25) 1 false) 10 true,
 o2 27 (.idx .nil) 10 true,
 o2 28 (.load 1 [] 1 (.t 27) 2 false) 10 true,
 ⟨false,[],[],.call 1 28 [.t 28] .no,[29],(some 29),some (10,true)⟩,
 ⟨false,[],[],.call 1 99 [.t 26,.t 29] .no,[30],(some 30),some (10,true)⟩,
 ⟨false,[],[],.pick 23 (.t 30) (.c (.bool false)),[31],(some 31),some (3,false)⟩,
 o7 16 (.c (.bool true)) (.t 31) 32,
 oc 2 32]))
 .ret)))
def s_sShardOk:Sig:=⟨[.rd true Ct0],(.one false [.d])⟩
def E_sShardOk:TEnv:=envOf [(54,p_sl01In),(15,p_sWebOk),(97,p_sl10Blank),(98,p_sAnswerOk),(28,p_sWebLabels),(99,p_sl05SameInts)]
def f_sShardOk (n:Nat):(Int × Int × List (Int × Int × Int × Bool) × Int × Bool × List (Int × Int) × List (Int))->Option ((Bool) × Unit):=runFn n E_sShardOk c_sShardOk [Ty1] [.b] [] [2] .no
def g_sShardOk:=f_sShardOk BIG
def p_sShardOk:TSp:=⟨s_sShardOk,[Ty1],[.b],[],Ou.j .no,g_sShardOk⟩
theorem k_sShardOk:chkW PG E_sShardOk 66 s_sShardOk (c_sShardOk.ht 33) .no=some (c_sShardOk.wc E_sShardOk,[2]):=by kernel_rfl
theorem ok_sShardOk:p_sShardOk.Ok PG 66:=mkOk (env_cons ok_sl01In (env_cons ok_sWebOk (env_cons ok_sl10Blank (env_cons ok_sAnswerOk (env_cons ok_sWebLabels (env_cons ok_sl05SameInts (env_nil PG))))))) k_sShardOk (by kernel_rfl)
theorem e_sShardOk (n) (a0):f_sShardOk n a0 =
 Option.bind (Option.bind (g_sl01In (a0.1,(1:Int),(3:Int))) fun r0=>
 bif !r0.1 then
 some true
 else Option.bind (g_sWebOk (a0.2.1,a0.2.2.1)) fun r1=>
 some !r1.1:Option (Bool)) fun x2=>
 bif x2 then
 some (false,())
 else Option.bind (Option.bind (g_sl10Blank a0.2.2.2) fun r3=>
 bif r3.1 then
 some true
 else Option.bind (g_sAnswerOk (a0.2.1,a0.2.2.2)) fun r4=>
 bif r4.1 then
 Option.bind (g_sWebLabels (a0.2.1,a0.2.2.1)) fun r5=>
 Option.bind (g_sl05SameInts (a0.2.2.2.2.2.2,r5.1)) fun r6=>
 some r6.1
 else some false:Option (Bool)) fun x7=>
 some (x7,()):=by kernel_rfl
def c_sOrderOk:TC:=
 (.seq (.rg [o1 3 (.a (.t 1)),
 o1 4 (.lit [.b] [.bool false])])
 (.seq (.seq (.join [⟨26,[.b],false⟩] 134217696 none (.rg [oc 5 0,
 o3 6 54 [.t 5,kO 1,kO 12],
 o1 7 (.data .not [.t 6]),
 oc 8 7,
 o2 9 (.idx .nil) 3 false,
 o2 10 (.load 3 [] 0 (.t 9) 1 false) 3 false,
 ⟨false,[],[],.call 1 54 [.t 10,kO 1,kO 100000] .no,[11],(some 11),some (3,false)⟩,
 o2 12 (.data .not [.t 11]) 3 false,
 o7 8 (.c (.bool true)) (.t 12) 13,
 oc 14 13,
 o2 15 (.idx .nil) 9 false,
 o2 16 (.load 3 [] 1 (.t 15) 1 false) 9 false,
 ⟨false,[],[],.call 1 54 [.t 16,kO 1,kO 4] .no,[17],(some 17),some (9,false)⟩,
 o2 18 (.data .not [.t 17]) 9 false,
 o7 14 (.c (.bool true)) (.t 18) 19,
 oc 20 19,
 o2 21 (.copy 0) 15 false,
 o2 22 (.idx .nil) 15 false,
 o2 23 (.load 3 [] 2 (.t 22) 1 false) 15 false,
 ⟨false,[],[],.call 1 80 [.t 21,.t 23] .no,[24],(some 24),some (15,false)⟩,
 o2 25 (.data .not [.t 24]) 15 false,
 o7 20 (.c (.bool true)) (.t 25) 26]))
 (.cond (.t 26)
 (.seq (.rg [o1 4 (.lit [.b] [.bool false])])
 .ret)
 .skip))
 (.seq (.seq (.rg [oi 27,
 o1 28 (.load 3 [] 1 (.t 27) 1 false)])
 (.block 0 (.seq (.rg [o1 30 (.data (.bin .eql) [.t 28,kD 3]),
 oc 29 30])
 (.cond (.t 29)
 (.seq (.join [⟨4,[.b],false⟩] 4395899027472 none (.rg [oi 31,
 o1 32 (.load 3 [] 2 (.t 31) 1 false),
 o1 33 (.len 32),
 o1 34 (.data (.bin .eql) [.t 33,kD 0]),
 oc 35 34,
 o2 36 (.idx .nil) 4 true,
 o2 37 (.load 3 [] 3 (.t 36) 1 false) 4 true,
 o2 38 (.copy 0) 4 true,
 o2 39 (.data (.bin .sub) [.t 38,kD 1]) 4 true,
 ⟨false,[],[],.call 1 54 [.t 37,kO 0,.t 39] .no,[40],(some 40),some (4,true)⟩,
 o7 35 (.t 40) (.c (.bool false)) 41,
 oc 4 41]))
 .ret)
 (.seq (.rg [o1 43 (.data (.bin .eql) [.t 28,kD 4]),
 oc 42 43])
 (.cond (.t 42)
 (.seq (.join [⟨4,[.b],false⟩] 8989607068696592 none (.rg [oi 44,
 o1 45 (.load 3 [] 2 (.t 44) 1 false),
 o1 46 (.len 45),
 o1 47 (.data (.bin .gtr) [.t 46,kD 0]),
 oc 48 47,
 o2 49 (.idx .nil) 4 true,
 o2 50 (.load 3 [] 3 (.t 49) 1 false) 4 true,
 o2 51 (.data (.bin .eql) [.t 50,kD 0]) 4 true,
 o7 48 (.t 51) (.c (.bool false)) 52,
 oc 4 52]))
 .ret)
 .skip))))))
 (.seq (.join [⟨4,[.b],false⟩] 4602678819172646928 none (.rg [oi 53,
 o1 54 (.load 3 [] 2 (.t 53) 1 false),
 o1 55 (.len 54),
 o1 56 (.data (.bin .eql) [.t 55,kD 1]),
 oc 57 56,
 o2 58 (.idx .nil) 4 true,
 o2 59 (.load 3 [] 3 (.t 58) 1 false) 4 true,
 o2 60 (.data (.bin .eql) [.t 59,kD 0]) 4 true,
 o7 57 (.t 60) (.c (.bool false)) 61,
 oc 4 61]))
 .ret))))
def s_sOrderOk:Sig:=⟨[.rd false [.d],.rd true Ct3],(.one false [.d])⟩
def E_sOrderOk:TEnv:=envOf [(54,p_sl01In),(80,p_sl05Edges)]
def f_sOrderOk (n:Nat):Int × (Int × Int × List (Int × Int) × Int)->Option ((Bool) × Unit):=runFn n E_sOrderOk c_sOrderOk [[.i .i64],Ty4] [.b] [] [4] .no
def g_sOrderOk:=f_sOrderOk BIG
def p_sOrderOk:TSp:=⟨s_sOrderOk,[[.i .i64],Ty4],[.b],[],Ou.j .no,g_sOrderOk⟩
theorem k_sOrderOk:chkW PG E_sOrderOk 67 s_sOrderOk (c_sOrderOk.ht 62) .no=some (c_sOrderOk.wc E_sOrderOk,[4]):=by kernel_rfl
theorem ok_sOrderOk:p_sOrderOk.Ok PG 67:=mkOk (env_cons ok_sl01In (env_cons ok_sl05Edges (env_nil PG))) k_sOrderOk (by kernel_rfl)
theorem e_sOrderOk (n) (a0) (a1):f_sOrderOk n (a0,a1) =
 Option.bind (Option.bind (g_sl01In (a0,(1:Int),(12:Int))) fun r0=>
 bif !r0.1 then
 some true
 else Option.bind (g_sl01In (a1.1,(1:Int),(100000:Int))) fun r1=>
 bif !r1.1 then
 some true
 else Option.bind (g_sl01In (a1.2.1,(1:Int),(4:Int))) fun r2=>
 bif !r2.1 then
 some true
 else Option.bind (g_sl05Edges (a0,a1.2.2.1)) fun r3=>
 some !r3.1:Option (Bool)) fun x4=>
 bif x4 then
 some (false,())
 else bif decide (a1.2.1=(3:Int)) then
 Option.bind (bif decide ((a1.2.2.1.length:Int)=(0:Int)) then
 Option.bind (g_sl01In (a1.2.2.2,(0:Int),IntKind.wrap .i64 (a0-(1:Int)))) fun r5=>
 some r5.1
 else some false:Option (Bool)) fun x6=>
 some (x6,())
 else bif decide (a1.2.1=(4:Int)) then
 Option.bind (bif decide ((0:Int)<(a1.2.2.1.length:Int)) then
 some (decide (a1.2.2.2=(0:Int)))
 else some false:Option (Bool)) fun x7=>
 some (x7,())
 else Option.bind (bif decide ((a1.2.2.1.length:Int)=(1:Int)) then
 some (decide (a1.2.2.2=(0:Int)))
 else some false:Option (Bool)) fun x8=>
 some (x8,()):=by kernel_rfl
def c_sl09CopyAnswer:TC:=
 (.seq (.rg [o1 1 (.a (.t 0)),
 o5 (.a (.c Ty3 [kV 0,.bool false,.slice none 0 0,.slice none 0 0])) 2 1000000003])
 (.seq (.rg [o1 3 (.sli [.i .i64,.i .i64] []),
 oi 4,
 o1 5 (.load 1 [] 2 (.t 4) 1 false),
 o5 (.app (some 3) 5) 6 3,
 oi 7,
 o4 2 [1,6] (.store 1 [] 2 (.t 7) (.t 6))])
 (.seq (.rg [o1 8 (.sli [.i .i64] []),
 oi 9,
 o1 10 (.load 1 [] 3 (.t 9) 1 false),
 o5 (.app (some 8) 10) 11 8,
 oi 12,
 o4 2 [1,11] (.store 1 [] 3 (.t 12) (.t 11))])
 (.seq (.rg [o1 13 (.load 1 [] 0 .nil 4 true),
 ⟨false,[13],[],.det 2 (.store 2 [] 0 .nil (.t 13)),[2,13,13,1],none,none⟩])
 .ret))))
def s_sl09CopyAnswer:Sig:=⟨[.rd true Ct1],(.one true Ct1)⟩
def E_sl09CopyAnswer:TEnv:=envOf []
def f_sl09CopyAnswer (n:Nat):(Int × Bool × List (Int × Int) × List (Int))->Option ((Int × Bool × List (Int × Int) × List (Int)) × Unit):=runFn n E_sl09CopyAnswer c_sl09CopyAnswer [Ty3] Ty3 [] [2] .no
def g_sl09CopyAnswer:=f_sl09CopyAnswer BIG
def p_sl09CopyAnswer:TSp:=⟨s_sl09CopyAnswer,[Ty3],Ty3,[],Ou.j .no,g_sl09CopyAnswer⟩
theorem k_sl09CopyAnswer:chkW PG E_sl09CopyAnswer 69 s_sl09CopyAnswer (c_sl09CopyAnswer.ht 14) .no=some (c_sl09CopyAnswer.wc E_sl09CopyAnswer,[2]):=by kernel_rfl
theorem ok_sl09CopyAnswer:p_sl09CopyAnswer.Ok PG 69:=mkOk (env_nil PG) k_sl09CopyAnswer (by kernel_rfl)
theorem e_sl09CopyAnswer (n) (a0):f_sl09CopyAnswer n a0 =
 bif decide (0+a0.2.2.1.length<=4294967296) then
 bif decide (0+a0.2.2.2.length<=4294967296) then
 some ((a0.1,a0.2.1,[]++a0.2.2.1,[]++a0.2.2.2),())
 else none
 else none:=by kernel_rfl
def c_sl10Copy:TC:=
 (.seq (.rg [o1 1 (.a (.t 0)),
 o5 (.a (.c Ty1 [kV 0,kV 0,.slice none 0 0,kV 0,.bool false,.slice none 0 0,.slice none 0 0])) 2 1000000003])
 (.seq (.rg [o1 3 (.sli Ty11 []),
 oi 4,
 o1 5 (.idx (.t 4)),
 o1 6 (.load 1 [] 2 (.t 5) 1 false),
 o5 (.app (some 3) 6) 7 3,
 oi 8,
 o1 9 (.idx (.t 8)),
 o4 2 [1,7] (.store 1 [] 2 (.t 9) (.t 7))])
 (.seq (.rg [oi 10,
 o1 11 (.load 1 [] 3 (.t 10) 4 false),
 o3 12 69 [.t 11],
 oi 13,
 o4 2 [1,12] (.store 1 [] 3 (.t 13) (.t 12))])
 (.seq (.rg [o1 14 (.load 1 [] 0 .nil 7 true),
 ⟨false,[14],[],.det 2 (.store 2 [] 0 .nil (.t 14)),[2,14,14,1],none,none⟩])
 .ret))))
def s_sl10Copy:Sig:=⟨[.rd true Ct0],(.one true Ct0)⟩
def E_sl10Copy:TEnv:=envOf [(69,p_sl09CopyAnswer)]
def f_sl10Copy (n:Nat):(Int × Int × List (Int × Int × Int × Bool) × Int × Bool × List (Int × Int) × List (Int))->Option ((Int × Int × List (Int × Int × Int × Bool) × Int × Bool × List (Int × Int) × List (Int)) × Unit):=runFn n E_sl10Copy c_sl10Copy [Ty1] Ty1 [] [2] .no
def g_sl10Copy:=f_sl10Copy BIG
def p_sl10Copy:TSp:=⟨s_sl10Copy,[Ty1],Ty1,[],Ou.j .no,g_sl10Copy⟩
theorem k_sl10Copy:chkW PG E_sl10Copy 68 s_sl10Copy (c_sl10Copy.ht 15) .no=some (c_sl10Copy.wc E_sl10Copy,[2]):=by kernel_rfl
theorem ok_sl10Copy:p_sl10Copy.Ok PG 68:=mkOk (env_cons ok_sl09CopyAnswer (env_nil PG)) k_sl10Copy (by kernel_rfl)
theorem e_sl10Copy (n) (a0):f_sl10Copy n a0 =
 bif decide (0+a0.2.2.1.length<=4294967296) then
 Option.bind (g_sl09CopyAnswer a0.2.2.2) fun r0=>
 some ((a0.1,a0.2.1,[]++a0.2.2.1,r0.1),())
 else none:=by kernel_rfl
def c_sHasEdge:TC:=
 (.seq (.rg [o1 2 (.a (.t 0)),
 o1 3 (.a (.t 1)),
 o1 4 (.lit [.b] [.bool false])])
 (.seq (.rg [oi 5,
 o1 6 (.load 2 [] 1 (.t 5) 1 false),
 o1 7 (.load 3 [] 0 .nil 2 false),
 o3 8 38 [.t 6,.t 7],
 oc 4 8])
 .ret))
def s_sHasEdge:Sig:=⟨[.rd true Ct5,.rd true [.d,.d]],(.one false [.d])⟩
def E_sHasEdge:TEnv:=envOf [(38,p_sl05Has)]
def f_sHasEdge (n:Nat):(Int × List (Int × Int)) × (Int × Int)->Option ((Bool) × Unit):=runFn n E_sHasEdge c_sHasEdge [Ty9,[.i .i64,.i .i64]] [.b] [] [4] .no
def g_sHasEdge:=f_sHasEdge BIG
def p_sHasEdge:TSp:=⟨s_sHasEdge,[Ty9,[.i .i64,.i .i64]],[.b],[],Ou.j .no,g_sHasEdge⟩
theorem k_sHasEdge:chkW PG E_sHasEdge 9 s_sHasEdge (c_sHasEdge.ht 9) .no=some (c_sHasEdge.wc E_sHasEdge,[4]):=by kernel_rfl
theorem ok_sHasEdge:p_sHasEdge.Ok PG 9:=mkOk (env_cons ok_sl05Has (env_nil PG)) k_sHasEdge (by kernel_rfl)
theorem e_sHasEdge (n) (a0) (a1):f_sHasEdge n (a0,a1) =
 Option.bind (g_sl05Has (a0.2,a1)) fun r0=>
 some (r0.1,()):=by kernel_rfl
def c_sAddEdge:TC:=
 (.seq (.rg [o1 2 (.a (.t 0)),
 o1 3 (.a (.t 1)),
 o5 (.a (.c Ty9 [kV 0,.slice none 0 0])) 4 1000000005,
 o1 5 (.lit [.b] [.bool false])])
 (.seq (.seq (.join [⟨20,[.b],false⟩] 2097088 none (.rg [o1 6 (.load 2 [] 0 .nil 2 false),
 o3 7 41 [.t 6],
 o1 8 (.data .not [.t 7]),
 oc 9 8,
 o2 10 (.idx .nil) 3 false,
 o2 11 (.load 2 [] 0 (.t 10) 1 false) 3 false,
 o2 12 (.load 3 [] 0 .nil 2 false) 3 false,
 ⟨false,[],[],.call 1 47 [.t 11,.t 12] .no,[13],(some 13),some (3,false)⟩,
 o2 14 (.data .not [.t 13]) 3 false,
 o7 9 (.c (.bool true)) (.t 14) 15,
 oc 16 15,
 o2 17 (.load 2 [] 0 .nil 2 false) 10 false,
 o2 18 (.load 3 [] 0 .nil 2 false) 10 false,
 ⟨false,[],[],.call 1 9 [.t 17,.t 18] .no,[19],(some 19),some (10,false)⟩,
 o7 16 (.c (.bool true)) (.t 19) 20]))
 (.cond (.t 20)
 (.seq (.rg [o1 21 (.build Ty9 []),
 o4 2 [4,21] (.store 4 [] 0 .nil (.t 21)),
 o1 5 (.lit [.b] [.bool false])])
 .ret)
 .skip))
 (.seq (.rg [oi 22,
 o1 23 (.load 2 [] 0 (.t 22) 1 false),
 oi 24,
 o1 25 (.load 2 [] 1 (.t 24) 1 false),
 o1 26 (.load 3 [] 0 .nil 2 false),
 o3 27 48 [.t 25,.t 26],
 o5 (.build Ty9 [(0,.t 23),(1,.t 27)]) 28 27,
 o4 2 [4,28] (.store 4 [] 0 .nil (.t 28)),
 o1 5 (.lit [.b] [.bool true])])
 .ret)))
def s_sAddEdge:Sig:=⟨[.rd true Ct5,.rd true [.d,.d]],(.tup [(true,2),(false,1)] [.d,.sl (.own none) [.d,.d],.d])⟩
def E_sAddEdge:TEnv:=envOf [(41,p_sGraphOk),(47,p_sEdgeOk),(9,p_sHasEdge),(48,p_sl05Put)]
def f_sAddEdge (n:Nat):(Int × List (Int × Int)) × (Int × Int)->Option ((Int × List (Int × Int) × Bool) × Unit):=runFn n E_sAddEdge c_sAddEdge [Ty9,[.i .i64,.i .i64]] Ty7 [] [4,5] .no
def g_sAddEdge:=f_sAddEdge BIG
def p_sAddEdge:TSp:=⟨s_sAddEdge,[Ty9,[.i .i64,.i .i64]],Ty7,[],Ou.j .no,g_sAddEdge⟩
theorem k_sAddEdge:chkW PG E_sAddEdge 13 s_sAddEdge (c_sAddEdge.ht 29) .no=some (c_sAddEdge.wc E_sAddEdge,[4,5]):=by kernel_rfl
theorem ok_sAddEdge:p_sAddEdge.Ok PG 13:=mkOk (env_cons ok_sGraphOk (env_cons ok_sEdgeOk (env_cons ok_sHasEdge (env_cons ok_sl05Put (env_nil PG))))) k_sAddEdge (by kernel_rfl)
theorem e_sAddEdge (n) (a0) (a1):f_sAddEdge n (a0,a1) =
 Option.bind (Option.bind (g_sGraphOk a0) fun r0=>
 bif !r0.1 then
 some true
 else Option.bind (g_sEdgeOk (a0.1,a1)) fun r1=>
 bif !r1.1 then
 some true
 else Option.bind (g_sHasEdge (a0,a1)) fun r2=>
 some r2.1:Option (Bool)) fun x3=>
 bif x3 then
 some (((0:Int),[],false),())
 else Option.bind (g_sl05Put (a0.2,a1)) fun r4=>
 some ((a0.1,r4.1,true),()):=by kernel_rfl
def c_sl08Put:TC:=
 (.seq (.rg [o1 3 (.a (.t 1)),
 o1 4 (.lit Ty8 [.slice none 0 0])])
 (.seq (.rg [o1 8 (.sli Ty11 []),
 o5 (.copy 8) 5 8])
 (.seq (.join [⟨5,Ty8,false⟩] 1125899906842208 none (.seq (.rg [o1 6 (kL 0)])
 (.block 0 (.loop [⟨5,Ty8,false⟩,⟨6,[.i .i64],false⟩] 1125899906842208
 (.seq (.seq (.rg [oc 9 6,
 oc 10 0,
 o1 11 (.len 10),
 o1 12 (.data (.bin .lss) [.t 9,.t 11])])
 (.cond (.t 12)
 .skip
 (.exit 0)))
 (.seq (.join [⟨5,Ty8,false⟩] 1125899906809888 none (.block 1 (.seq (.join [⟨42,[.b],false⟩] 8796092989440 none (.rg [oc 15 0,
 oc 16 6,
 o1 17 (.index 15 (.t 16)),
 o1 18 (.idx (.t 17)),
 o1 19 (.load 15 [(0,4)] 0 (.t 18) 1 false),
 oi 20,
 o1 21 (.load 3 [] 0 (.t 20) 1 false),
 o1 22 (.data (.bin .lss) [.t 19,.t 21]),
 oc 23 22,
 o2 24 (.copy 0) 8 false,
 o2 25 (.copy 6) 8 false,
 o2 26 (.index 24 (.t 25)) 8 false,
 o2 27 (.idx (.t 26)) 8 false,
 o2 28 (.load 24 [(0,4)] 0 (.t 27) 1 false) 8 false,
 o2 29 (.idx .nil) 8 false,
 o2 30 (.load 3 [] 0 (.t 29) 1 false) 8 false,
 o2 31 (.data (.bin .eql) [.t 28,.t 30]) 8 false,
 o2 32 (.copy 31) 8 false,
 o2 33 (.copy 0) 17 true,
 o2 34 (.copy 6) 17 true,
 o2 35 (.index 33 (.t 34)) 17 true,
 o2 36 (.idx (.t 35)) 17 true,
 o2 37 (.load 33 [(0,4)] 1 (.t 36) 1 false) 17 true,
 o2 38 (.idx .nil) 17 true,
 o2 39 (.load 3 [] 1 (.t 38) 1 false) 17 true,
 o2 40 (.data (.bin .lss) [.t 37,.t 39]) 17 true,
 ⟨false,[],[],.pick 32 (.t 40) (.c (.bool false)),[41],(some 41),some (8,false)⟩,
 o7 23 (.c (.bool true)) (.t 41) 42]))
 (.cond (.t 42)
 (.rg [o5 (.copy 5) 43 5,
 oc 44 0,
 oc 45 6,
 o1 46 (.index 44 (.t 45)),
 o1 47 (.load 44 [(0,4)] 0 (.t 46) 4 false),
 o1 48 (.sli Ty11 [.t 47]),
 o5 (.app (some 43) 48) 49 43,
 o5 (.copy 49) 5 49])
 .skip))))
 (.rg [oc 13 6,
 o1 14 (.data (.bin .add) [.t 13,kD 1]),
 oc 6 14])))))))
 (.seq (.rg [o5 (.copy 5) 50 5,
 o1 51 (.load 3 [] 0 .nil 4 false),
 o1 52 (.sli Ty11 [.t 51]),
 o5 (.app (some 50) 52) 53 50,
 o5 (.copy 53) 5 53])
 (.seq (.join [⟨5,Ty8,false⟩] 39614081257114154398262493344 none (.seq (.rg [o1 7 (kL 0)])
 (.block 2 (.loop [⟨5,Ty8,false⟩,⟨7,[.i .i64],false⟩] 39614081257114154398262493344
 (.seq (.seq (.rg [oc 54 7,
 oc 55 0,
 o1 56 (.len 55),
 o1 57 (.data (.bin .lss) [.t 54,.t 56])])
 (.cond (.t 57)
 .skip
 (.exit 2)))
 (.seq (.join [⟨5,Ty8,false⟩] 39614081255979247292165128224 none (.block 3 (.seq (.join [⟨87,[.b],false⟩] 309485008668423564117934080 none (.rg [oc 60 0,
 oc 61 7,
 o1 62 (.index 60 (.t 61)),
 o1 63 (.idx (.t 62)),
 o1 64 (.load 60 [(0,4)] 0 (.t 63) 1 false),
 oi 65,
 o1 66 (.load 3 [] 0 (.t 65) 1 false),
 o1 67 (.data (.bin .gtr) [.t 64,.t 66]),
 oc 68 67,
 o2 69 (.copy 0) 8 false,
 o2 70 (.copy 7) 8 false,
 o2 71 (.index 69 (.t 70)) 8 false,
 o2 72 (.idx (.t 71)) 8 false,
 o2 73 (.load 69 [(0,4)] 0 (.t 72) 1 false) 8 false,
 o2 74 (.idx .nil) 8 false,
 o2 75 (.load 3 [] 0 (.t 74) 1 false) 8 false,
 o2 76 (.data (.bin .eql) [.t 73,.t 75]) 8 false,
 o2 77 (.copy 76) 8 false,
 o2 78 (.copy 0) 17 true,
 o2 79 (.copy 7) 17 true,
 o2 80 (.index 78 (.t 79)) 17 true,
 o2 81 (.idx (.t 80)) 17 true,
 o2 82 (.load 78 [(0,4)] 1 (.t 81) 1 false) 17 true,
 o2 83 (.idx .nil) 17 true,
 o2 84 (.load 3 [] 1 (.t 83) 1 false) 17 true,
 o2 85 (.data (.bin .gtr) [.t 82,.t 84]) 17 true,
 ⟨false,[],[],.pick 77 (.t 85) (.c (.bool false)),[86],(some 86),some (8,false)⟩,
 o7 68 (.c (.bool true)) (.t 86) 87]))
 (.cond (.t 87)
 (.rg [o5 (.copy 5) 88 5,
 oc 89 0,
 oc 90 7,
 o1 91 (.index 89 (.t 90)),
 o1 92 (.load 89 [(0,4)] 0 (.t 91) 4 false),
 o1 93 (.sli Ty11 [.t 92]),
 o5 (.app (some 88) 93) 94 88,
 o5 (.copy 94) 5 94])
 .skip))))
 (.rg [oc 58 7,
 o1 59 (.data (.bin .add) [.t 58,kD 1]),
 oc 7 59])))))))
 (.seq (.rg [o5 (.copy 5) 95 5,
 o5 (.copy 95) 4 95])
 .ret))))))
def s_sl08Put:Sig:=⟨[.rd false [.sl (.own none) [.d,.d,.d,.d]],.rd true [.d,.d,.d,.d]],(.one false [.sl (.own none) [.d,.d,.d,.d]])⟩
def E_sl08Put:TEnv:=envOf []
def f_sl08Put (n:Nat):(List (Int × Int × Int × Bool)) × (Int × Int × Int × Bool)->Option ((List (Int × Int × Int × Bool)) × Unit):=runFn n E_sl08Put c_sl08Put [Ty8,Ty11] Ty8 [] [4] .no
def g_sl08Put:=f_sl08Put BIG
def p_sl08Put:TSp:=⟨s_sl08Put,[Ty8,Ty11],Ty8,[],Ou.j .no,g_sl08Put⟩
theorem k_sl08Put:chkW PG E_sl08Put 100 s_sl08Put (c_sl08Put.ht 96) .no=some (c_sl08Put.wc E_sl08Put,[4]):=by kernel_rfl
theorem ok_sl08Put:p_sl08Put.Ok PG 100:=mkOk (env_nil PG) k_sl08Put (by kernel_rfl)
theorem e_sl08Put (n) (a0) (a1):f_sl08Put n (a0,a1) =
 Option.bind (loopT n (X:=(List (Int × Int × Int × Bool)) × Int) (B:=(List (Int × Int × Int × Bool))) (fun self1 x0=>
 bif decide (x0.2<(a0.length:Int)) then
 Option.bind (Option.bind (bnd a0.length x0.2 fun n2=>
 Option.bind a0[n2]? fun y3=>
 bif decide (y3.1<a1.1) then
 some true
 else bnd a0.length x0.2 fun n4=>
 Option.bind a0[n4]? fun y5=>
 bif decide (y5.1=a1.1) then
 bnd a0.length x0.2 fun n6=>
 Option.bind a0[n6]? fun y7=>
 some (decide (y7.2.1<a1.2.1))
 else some false:Option (Bool)) fun x8=>
 bif x8 then
 bnd a0.length x0.2 fun n9=>
 Option.bind a0[n9]? fun y10=>
 bif decide (x0.1.length+[y10].length<=4294967296) then
 some (x0.1++[y10])
 else none
 else some x0.1:Option ((List (Int × Int × Int × Bool)))) fun x11=>
 self1 (x11,IntKind.wrap .i64 (x0.2+(1:Int)))
 else some x0.1) ([],(0:Int)):Option ((List (Int × Int × Int × Bool)))) fun x12=>
 bif decide (x12.length+[a1].length<=4294967296) then
 Option.bind (loopT n (X:=(List (Int × Int × Int × Bool)) × Int) (B:=(List (Int × Int × Int × Bool))) (fun self14 x13=>
 bif decide (x13.2<(a0.length:Int)) then
 Option.bind (Option.bind (bnd a0.length x13.2 fun n15=>
 Option.bind a0[n15]? fun y16=>
 bif decide (a1.1<y16.1) then
 some true
 else bnd a0.length x13.2 fun n17=>
 Option.bind a0[n17]? fun y18=>
 bif decide (y18.1=a1.1) then
 bnd a0.length x13.2 fun n19=>
 Option.bind a0[n19]? fun y20=>
 some (decide (a1.2.1<y20.2.1))
 else some false:Option (Bool)) fun x21=>
 bif x21 then
 bnd a0.length x13.2 fun n22=>
 Option.bind a0[n22]? fun y23=>
 bif decide (x13.1.length+[y23].length<=4294967296) then
 some (x13.1++[y23])
 else none
 else some x13.1:Option ((List (Int × Int × Int × Bool)))) fun x24=>
 self14 (x24,IntKind.wrap .i64 (x13.2+(1:Int)))
 else some x13.1) (x12++[a1],(0:Int)):Option ((List (Int × Int × Int × Bool)))) fun x25=>
 some (x25,())
 else none:=by kernel_rfl
def c_sWebAdd:TC:=
 (.seq (.rg [o1 2 (.a (.t 0)),
 o1 3 (.a (.t 1)),
 o5 (.a (.c Ty6 [kV 0,.slice none 0 0])) 4 1000000005,
 o1 5 (.lit [.b] [.bool false])])
 (.seq (.rg [⟨false,[],[1000000007],.det 1 (.load 2 [] 0 .nil 2 false),[12],(some 12),none⟩,
 ⟨false,[],[1000000007],.call 1 32 [.t 12] .no,[13],(some 13),none⟩,
 ⟨false,[],[1000000007],.det 1 (.load 3 [] 0 .nil 2 false),[14],(some 14),none⟩,
 ⟨false,[],[1000000007],.call 1 13 [.t 13,.t 14] .no,[15],(some 15),none⟩,
 ⟨false,[],[1000000007],.det 2 (.copy 15),[11,15],(some 11),none⟩,
 ⟨false,[],[1000000007],.det 2 (.ext 11 0 2),[16,11],(some 16),none⟩,
 ⟨false,[],[1000000007],.det 1 (.ext 11 2 1),[17],(some 17),none⟩,
 o5 (.a (.c Ty9 [kV 0,.slice none 0 0])) 6 1000000007,
 o4 2 [6,16] (.store 6 [] 0 .nil (.t 16)),
 oc 7 17])
 (.seq (.seq (.join [⟨24,[.b],false⟩] 33292288 none (.rg [o1 18 (.load 2 [] 0 .nil 2 false),
 o3 19 15 [.t 18],
 o1 20 (.data .not [.t 19]),
 oc 21 20,
 o2 22 (.copy 7) 3 false,
 o2 23 (.data .not [.t 22]) 3 false,
 o7 21 (.c (.bool true)) (.t 23) 24]))
 (.cond (.t 24)
 (.seq (.rg [o1 25 (.build Ty6 []),
 o4 2 [4,25] (.store 4 [] 0 .nil (.t 25)),
 o1 5 (.lit [.b] [.bool false])])
 .ret)
 .skip))
 (.seq (.rg [o1 27 (.load 2 [] 0 .nil 2 false),
 o3 28 55 [.t 27,kO 0],
 o5 (.copy 28) 26 28,
 o5 (.ext 26 0 2) 29 26,
 o1 30 (.ext 26 2 1),
 o5 (.a (.c Ty12 [kV 0,.slice none 0 0])) 8 1000000009,
 o4 2 [8,29] (.store 8 [] 0 .nil (.t 29)),
 oc 9 30])
 (.seq (.rg [⟨false,[],[1000000011],.det 1 (.idx .nil),[31],(some 31),none⟩,
 ⟨false,[],[1000000011],.det 1 (.load 3 [] 0 (.t 31) 1 false),[32],(some 32),none⟩,
 ⟨false,[],[1000000011],.det 1 (.idx .nil),[33],(some 33),none⟩,
 ⟨false,[],[1000000011],.det 1 (.load 3 [] 1 (.t 33) 1 false),[34],(some 34),none⟩,
 ⟨false,[],[1000000011],.det 1 (.load 8 [] 0 .nil 2 true),[35],(some 35),none⟩,
 ⟨false,[],[1000000011],.det 1 (.idx .nil),[36],(some 36),none⟩,
 ⟨false,[],[1000000011],.det 1 (.load 3 [] 0 (.t 36) 1 false),[37],(some 37),none⟩,
 ⟨false,[],[1000000011],.call 1 57 [.t 35,.t 37] .no,[38],(some 38),none⟩,
 ⟨false,[],[1000000011],.det 1 (.load 8 [] 0 .nil 2 true),[39],(some 39),none⟩,
 ⟨false,[],[1000000011],.det 1 (.idx .nil),[40],(some 40),none⟩,
 ⟨false,[],[1000000011],.det 1 (.load 3 [] 1 (.t 40) 1 false),[41],(some 41),none⟩,
 ⟨false,[],[1000000011],.call 1 57 [.t 39,.t 41] .no,[42],(some 42),none⟩,
 ⟨false,[],[1000000011],.det 1 (.data (.bin .neq) [.t 38,.t 42]),[43],(some 43),none⟩,
 ⟨false,[],[1000000011],.det 1 (.build Ty11 [(0,.t 32),(1,.t 34),(3,.t 43)]),[44],(some 44),none⟩,
 o5 (.a (.c Ty11 [kV 0,kV 0,kV 0,.bool false])) 10 1000000011,
 o4 1 [10] (.store 10 [] 0 .nil (.t 44))])
 (.seq (.rg [oi 45,
 o1 46 (.load 2 [] 0 (.t 45) 1 false),
 oi 47,
 o1 48 (.load 2 [] 1 (.t 47) 1 false),
 o1 49 (.load 10 [] 0 .nil 4 false),
 o3 50 100 [.t 48,.t 49],
 o5 (.build Ty6 [(0,.t 46),(1,.t 50)]) 51 50,
 o4 2 [4,51] (.store 4 [] 0 .nil (.t 51)),
 o1 5 (.lit [.b] [.bool true])])
 .ret))))))
def s_sWebAdd:Sig:=⟨[.rd true Ct4,.rd true [.d,.d]],(.tup [(true,2),(false,1)] Ct2)⟩
def E_sWebAdd:TEnv:=envOf [(32,p_sGraphOf),(13,p_sAddEdge),(15,p_sWebOk),(55,p_sForestAt),(57,p_sTreeOf),(100,p_sl08Put)]
def f_sWebAdd (n:Nat):(Int × List (Int × Int × Int × Bool)) × (Int × Int)->Option ((Int × List (Int × Int × Int × Bool) × Bool) × Unit):=runFn n E_sWebAdd c_sWebAdd [Ty6,[.i .i64,.i .i64]] Ty5 [] [4,5] .no
def g_sWebAdd:=f_sWebAdd BIG
def p_sWebAdd:TSp:=⟨s_sWebAdd,[Ty6,[.i .i64,.i .i64]],Ty5,[],Ou.j .no,g_sWebAdd⟩
theorem k_sWebAdd:chkW PG E_sWebAdd 70 s_sWebAdd (c_sWebAdd.ht 52) .no=some (c_sWebAdd.wc E_sWebAdd,[4,5]):=by kernel_rfl
theorem ok_sWebAdd:p_sWebAdd.Ok PG 70:=mkOk (env_cons ok_sGraphOf (env_cons ok_sAddEdge (env_cons ok_sWebOk (env_cons ok_sForestAt (env_cons ok_sTreeOf (env_cons ok_sl08Put (env_nil PG))))))) k_sWebAdd (by kernel_rfl)
theorem e_sWebAdd (n) (a0) (a1):f_sWebAdd n (a0,a1) =
 Option.bind (g_sGraphOf a0) fun r0=>
 Option.bind (g_sAddEdge (r0.1,a1)) fun r1=>
 Option.bind (Option.bind (g_sWebOk a0) fun r2=>
 bif !r2.1 then
 some true
 else some !r1.1.2.2:Option (Bool)) fun x3=>
 bif x3 then
 some (((0:Int),[],false),())
 else Option.bind (g_sForestAt (a0,(0:Int))) fun r4=>
 Option.bind (g_sTreeOf ((r4.1.1,r4.1.2.1),a1.1)) fun r5=>
 Option.bind (g_sTreeOf ((r4.1.1,r4.1.2.1),a1.2)) fun r6=>
 Option.bind (g_sl08Put (a0.2,(a1.1,a1.2,(0:Int),!decide (r5.1=r6.1)))) fun r7=>
 some ((a0.1,r7.1,true),()):=by kernel_rfl
def c_sl08Search:TC:=
 (.seq (.rg [o1 3 (.a (.t 0)),
 o1 4 (.a (.t 1)),
 o1 6 (.lit Ty8 [.slice none 0 0]),
 o1 7 (kL 0)])
 (.seq (.rg [o1 18 (.sli Ty11 []),
 oi 19,
 o1 20 (.load 3 [] 1 (.t 19) 1 false),
 o5 (.app (some 18) 20) 21 18,
 o5 (.copy 21) 8 21])
 (.seq (.rg [o1 23 (.load 3 [] 0 .nil 2 false),
 oc 24 2,
 o3 25 55 [.t 23,.t 24],
 o5 (.copy 25) 22 25,
 o5 (.ext 22 0 2) 26 22,
 o1 27 (.ext 22 2 1),
 o5 (.a (.c Ty12 [kV 0,.slice none 0 0])) 9 1000000010,
 o4 2 [9,26] (.store 9 [] 0 .nil (.t 26)),
 oc 10 27])
 (.seq (.rg [oi 28,
 o1 29 (.load 9 [] 1 (.t 28) 1 true),
 o1 30 (.load 9 [] 0 .nil 2 true),
 oi 31,
 o1 32 (.load 4 [] 0 (.t 31) 1 false),
 o3 33 57 [.t 30,.t 32],
 o1 34 (.index 29 (.t 33)),
 o1 35 (.load 9 [(1,1)] 0 (.t 34) 1 false),
 o3 36 56 [.t 35],
 o5 (.copy 36) 11 36])
 (.seq (.rg [oi 37,
 o1 38 (.load 9 [] 1 (.t 37) 1 true),
 o1 39 (.load 9 [] 0 .nil 2 true),
 oi 40,
 o1 41 (.load 4 [] 1 (.t 40) 1 false),
 o3 42 57 [.t 39,.t 41],
 o1 43 (.index 38 (.t 42)),
 o1 44 (.load 9 [(1,1)] 0 (.t 43) 1 false),
 o3 45 56 [.t 44],
 o5 (.copy 45) 12 45])
 (.seq (.join [⟨11,[.sl [.i .i64]],false⟩] 4433230883198976 none (.seq (.rg [o6 46 12,
 o1 47 (.len 46),
 o6 48 11,
 o1 49 (.len 48),
 o1 50 (.data (.bin .lss) [.t 47,.t 49])])
 (.cond (.t 50)
 (.rg [⟨false,[],[],.det 2 (.copy 12),[51,12,46],(some 51),none⟩,
 ⟨false,[],[],.det 2 (.copy 51),[11,51,48],(some 11),none⟩])
 .skip)))
 (.seq (.rg [oc 52 2,
 o1 53 (.data (.bin .add) [.t 52,kD 1]),
 oc 13 53])
 (.seq (.join [⟨13,[.i .i64],false⟩] 54043195528454144 none (.seq (.rg [oc 54 13,
 o1 55 (.data (.bin .gtr) [.t 54,kD 4])])
 (.cond (.t 55)
 (.rg [o1 13 (kL 4)])
 .skip)))
 (.seq (.join [⟨8,Ty8,false⟩] 1237940039213322680861212928 none (.seq (.rg [o1 14 (kL 0)])
 (.block 0 (.loop [⟨8,Ty8,false⟩,⟨14,[.i .i64],false⟩] 1237940039213322680861212928
 (.seq (.seq (.rg [oc 56 14,
 o6 57 8,
 o1 58 (.len 57),
 o1 59 (.data (.bin .lss) [.t 56,.t 58])])
 (.cond (.t 59)
 .skip
 (.exit 0)))
 (.seq (.join [⟨8,Ty8,false⟩] 1237940034817809444547592448 none (.block 1 (.seq (.join [⟨84,[.b],false⟩] 38685621615982115163209728 none (.rg [o6 62 8,
 oc 63 14,
 o1 64 (.index 62 (.t 63)),
 o1 65 (.idx (.t 64)),
 o1 66 (.load 8 [(0,4)] 3 (.t 65) 1 false),
 oc 67 66,
 ⟨true,[],[],.det 1 (.copy 8),[68],(some 68),some (5,true)⟩,
 o2 69 (.copy 14) 5 true,
 o2 70 (.index 68 (.t 69)) 5 true,
 o2 71 (.idx (.t 70)) 5 true,
 o2 72 (.load 8 [(0,4)] 2 (.t 71) 1 false) 5 true,
 o2 73 (.copy 2) 5 true,
 o2 74 (.data (.bin .eql) [.t 72,.t 73]) 5 true,
 o7 67 (.t 74) (.c (.bool false)) 75,
 oc 76 75,
 ⟨true,[],[],.det 1 (.copy 11),[77],(some 77),some (14,true)⟩,
 ⟨true,[],[],.det 1 (.copy 8),[78],(some 78),some (14,true)⟩,
 o2 79 (.copy 14) 14 true,
 o2 80 (.index 78 (.t 79)) 14 true,
 o2 81 (.idx (.t 80)) 14 true,
 o2 82 (.load 8 [(0,4)] 0 (.t 81) 1 false) 14 true,
 ⟨false,[],[],.call 1 89 [.t 77,.t 82] .no,[83],(some 83),some (14,true)⟩,
 o7 76 (.t 83) (.c (.bool false)) 84]))
 (.cond (.t 84)
 (.rg [o6 85 8,
 oc 86 14,
 oc 87 13,
 o1 88 (.index 85 (.t 86)),
 o1 89 (.idx (.t 88)),
 o4 1 [8,57,62,85] (.store 8 [(0,4)] 2 (.t 89) (.t 87))])
 .skip))))
 (.rg [oc 60 14,
 o1 61 (.data (.bin .add) [.t 60,kD 1]),
 oc 14 61])))))))
 (.seq (.join [⟨8,Ty8,false⟩] 713623846352979939291202945439367293292478912 (some [⟨6,Ty8,false⟩,⟨7,[.i .i64],false⟩]) (.seq (.rg [o1 15 (kL 0)])
 (.block 2 (.loop [⟨8,Ty8,false⟩,⟨15,[.i .i64],false⟩] 713623846352979939291202945583482481368334784
 (.seq (.seq (.rg [oc 90 15,
 o6 91 8,
 o1 92 (.len 91),
 o1 93 (.data (.bin .lss) [.t 90,.t 92])])
 (.cond (.t 93)
 .skip
 (.exit 2)))
 (.seq (.join [⟨8,Ty8,false⟩] 713623846352979863776860549031170524445868480 (some [⟨6,Ty8,false⟩,⟨7,[.i .i64],false⟩]) (.block 3 (.seq (.rg [o6 96 11,
 o6 97 8,
 oc 98 15,
 o1 99 (.index 97 (.t 98)),
 o1 100 (.idx (.t 99)),
 o1 101 (.load 8 [(0,4)] 0 (.t 100) 1 false),
 o3 102 89 [.t 96,.t 101],
 oc 16 102])
 (.seq (.rg [o6 103 11,
 o6 104 8,
 oc 105 15,
 o1 106 (.index 104 (.t 105)),
 o1 107 (.idx (.t 106)),
 o1 108 (.load 8 [(0,4)] 1 (.t 107) 1 false),
 o3 109 89 [.t 103,.t 108],
 oc 17 109])
 (.seq (.seq (.join [⟨133,[.b],false⟩] 21778070184865847027949067743009083228160 none (.rg [oi 110,
 o1 111 (.load 3 [] 1 (.t 110) 1 false),
 oc 112 15,
 o1 113 (.index 111 (.t 112)),
 o1 114 (.idx (.t 113)),
 o1 115 (.load 111 [(0,4)] 3 (.t 114) 1 false),
 oc 116 115,
 o2 117 (.idx .nil) 6 false,
 o2 118 (.load 3 [] 1 (.t 117) 1 false) 6 false,
 o2 119 (.copy 15) 6 false,
 o2 120 (.index 118 (.t 119)) 6 false,
 o2 121 (.idx (.t 120)) 6 false,
 o2 122 (.load 118 [(0,4)] 2 (.t 121) 1 false) 6 false,
 o2 123 (.copy 2) 6 false,
 o2 124 (.data (.bin .neq) [.t 122,.t 123]) 6 false,
 o7 116 (.c (.bool true)) (.t 124) 125,
 oc 126 125,
 o2 127 (.copy 16) 16 false,
 o2 128 (.data .not [.t 127]) 16 false,
 o2 129 (.copy 128) 16 false,
 o2 130 (.copy 17) 19 true,
 o2 131 (.data .not [.t 130]) 19 true,
 ⟨false,[],[],.pick 129 (.t 131) (.c (.bool false)),[132],(some 132),some (16,false)⟩,
 o7 126 (.c (.bool true)) (.t 132) 133]))
 (.cond (.t 133)
 (.exit 3)
 .skip))
 (.seq (.seq (.join [⟨137,[.b],false⟩] 326671072244100924924839623134497482997760 none (.rg [oc 134 16,
 oc 135 134,
 o2 136 (.copy 17) 1 true,
 o7 135 (.t 136) (.c (.bool false)) 137]))
 (.cond (.t 137)
 (.seq (.rg [o6 138 8,
 oc 139 15,
 oc 140 13,
 o1 141 (.index 138 (.t 139)),
 o1 142 (.idx (.t 141)),
 o4 1 [8,91,97,104,138] (.store 8 [(0,4)] 2 (.t 142) (.t 140))])
 (.exit 3))
 .skip))
 (.seq (.rg [o6 143 8,
 oc 144 15,
 o1 145 (.index 143 (.t 144)),
 o1 146 (.idx (.t 145)),
 o4 1 [8,91,97,104,143] (.store 8 [(0,4)] 3 (.t 146) (.c [.b] [.bool true]))])
 (.seq (.rg [⟨false,[],[],.det 2 (.copy 8),[147,8,99,100,106,107,145,146],(some 147),none⟩,
 oc 148 15,
 o5 (.copy 147) 6 147,
 oc 7 148])
 .ret))))))))
 (.rg [oc 94 15,
 o1 95 (.data (.bin .add) [.t 94,kD 1]),
 oc 15 95])))))))
 (.seq (.rg [⟨false,[],[],.det 2 (.copy 8),[149,8,91],(some 149),none⟩,
 o5 (.copy 149) 6 149,
 o1 7 (kL (-1))])
 .ret)))))))))))
def s_sl08Search:Sig:=⟨[.rd true Ct4,.rd true [.d,.d],.rd false [.d]],(.tup [(false,1),(false,1)] [.sl (.own none) [.d,.d,.d,.d],.d])⟩
def E_sl08Search:TEnv:=envOf [(55,p_sForestAt),(57,p_sTreeOf),(56,p_sVertsOf),(89,p_sl05In)]
def f_sl08Search (n:Nat):(Int × List (Int × Int × Int × Bool)) × (Int × Int) × Int->Option ((List (Int × Int × Int × Bool) × Int) × Unit):=runFn n E_sl08Search c_sl08Search [Ty6,[.i .i64,.i .i64],[.i .i64]] [.sl Ty11,.i .i64] [] [6,7] .no
def g_sl08Search:=f_sl08Search BIG
def p_sl08Search:TSp:=⟨s_sl08Search,[Ty6,[.i .i64,.i .i64],[.i .i64]],[.sl Ty11,.i .i64],[],Ou.j .no,g_sl08Search⟩
theorem k_sl08Search:chkW PG E_sl08Search 101 s_sl08Search (c_sl08Search.ht 150) .no=some (c_sl08Search.wc E_sl08Search,[6,7]):=by kernel_rfl
theorem ok_sl08Search:p_sl08Search.Ok PG 101:=mkOk (env_cons ok_sForestAt (env_cons ok_sTreeOf (env_cons ok_sVertsOf (env_cons ok_sl05In (env_nil PG))))) k_sl08Search (by kernel_rfl)
theorem e_sl08Search (n) (a0) (a1) (a2):f_sl08Search n (a0,a1,a2) =
 bif decide (0+a0.2.length<=4294967296) then
  Option.bind (g_sForestAt (a0,a2)) fun r0=>
  Option.bind (g_sTreeOf ((r0.1.1,r0.1.2.1),a1.1)) fun r1=>
  bnd r0.1.2.1.length r1.1 fun n2=>
  Option.bind r0.1.2.1[n2]? fun y3=>
  Option.bind (g_sVertsOf y3) fun r4=>
  Option.bind (g_sTreeOf ((r0.1.1,r0.1.2.1),a1.2)) fun r5=>
  bnd r0.1.2.1.length r5.1 fun n6=>
  Option.bind r0.1.2.1[n6]? fun y7=>
  Option.bind (g_sVertsOf y7) fun r8=>
  Option.bind (bif decide ((r8.1.length:Int)<(r4.1.length:Int)) then
   some r8.1
   else some r4.1:Option ((List (Int)))) fun x9=>
  Option.bind (bif decide ((4:Int)<(IntKind.wrap .i64 (a2+(1:Int)))) then
   some (4:Int)
   else some (IntKind.wrap .i64 (a2+(1:Int))):Option (Int)) fun x10=>
  Option.bind (loopT n (X:=(List (Int × Int × Int × Bool)) × Int) (B:=(List (Int × Int × Int × Bool))) (fun self12 x11=>
   bif decide (x11.2<(x11.1.length:Int)) then
    Option.bind (Option.bind (bnd x11.1.length x11.2 fun n13=>
     Option.bind x11.1[n13]? fun y14=>
     bif y14.2.2.2 then
      bnd x11.1.length x11.2 fun n15=>
      Option.bind x11.1[n15]? fun y16=>
      bif decide (y16.2.2.1=a2) then
       bnd x11.1.length x11.2 fun n17=>
       Option.bind x11.1[n17]? fun y18=>
       Option.bind (g_sl05In (x9,y18.1)) fun r19=>
       some r19.1
      else some false
     else some false:Option (Bool)) fun x20=>
     bif x20 then
      bnd x11.1.length x11.2 fun n21=>
      Option.bind x11.1[n21]? fun y22=>
      some (x11.1.set n21 (y22.1,y22.2.1,x10,y22.2.2.2))
     else some x11.1:Option ((List (Int × Int × Int × Bool)))) fun x23=>
    self12 (x23,IntKind.wrap .i64 (x11.2+(1:Int)))
   else some x11.1) ([]++a0.2,(0:Int)):Option ((List (Int × Int × Int × Bool)))) fun x24=>
  Option.bind (loopT n (X:=(List (Int × Int × Int × Bool)) × Int) (B:=((List (Int × Int × Int × Bool))) ⊕ ((List (Int × Int × Int × Bool)) × Int)) (fun self26 x25=>
   bif decide (x25.2<(x25.1.length:Int)) then
    Option.bind (bnd x25.1.length x25.2 fun n27=>
     Option.bind x25.1[n27]? fun y28=>
     Option.bind (g_sl05In (x9,y28.1)) fun r29=>
     bnd x25.1.length x25.2 fun n30=>
     Option.bind x25.1[n30]? fun y31=>
     Option.bind (g_sl05In (x9,y31.2.1)) fun r32=>
     Option.bind (bnd a0.2.length x25.2 fun n33=>
      Option.bind a0.2[n33]? fun y34=>
      bif y34.2.2.2 then
       some true
      else bnd a0.2.length x25.2 fun n35=>
      Option.bind a0.2[n35]? fun y36=>
      bif !decide (y36.2.2.1=a2) then
       some true
      else bif !r29.1 then
       some !r32.1
      else some false:Option (Bool)) fun x37=>
     bif x37 then
      some (Sum.inl x25.1)
     else Option.bind (bif r29.1 then
      some r32.1
      else some false:Option (Bool)) fun x38=>
     bif x38 then
      bnd x25.1.length x25.2 fun n39=>
      Option.bind x25.1[n39]? fun y40=>
      some (Sum.inl (x25.1.set n39 (y40.1,y40.2.1,x10,y40.2.2.2)))
     else bnd x25.1.length x25.2 fun n41=>
     Option.bind x25.1[n41]? fun y42=>
     some (Sum.inr (x25.1.set n41 (y42.1,y42.2.1,y42.2.2.1,true),x25.2)):Option (((List (Int × Int × Int × Bool))) ⊕ ((List (Int × Int × Int × Bool)) × Int))) fun y=>match y with
    | .inl x43=>
     self26 (x43,IntKind.wrap .i64 (x25.2+(1:Int)))
    | .inr x43=>
     some (Sum.inr (x43.1,x43.2))
   else some (Sum.inl x25.1)) (x24,(0:Int)):Option (((List (Int × Int × Int × Bool))) ⊕ ((List (Int × Int × Int × Bool)) × Int))) fun y=>match y with
  | .inl x44=>
   some ((x44,(-1:Int)),())
  | .inr x44=>
   some (x44,())
 else none:=by kernel_rfl
def c_sWebTake:TC:=
 (.seq (.rg [o1 2 (.a (.t 0)),
 o1 3 (.a (.t 1)),
 o5 (.a (.c Ty6 [kV 0,.slice none 0 0])) 4 1000000005,
 o5 (.a (.c [.i .i64,.i .i64] [kV 0,kV 0])) 5 1000000006,
 o1 6 (.lit [.b] [.bool false]),
 o1 7 (.lit [.b] [.bool false])])
 (.seq (.seq (.join [⟨23,[.b],false⟩] 16760832 none (.rg [o1 14 (.load 2 [] 0 .nil 2 false),
 o3 15 15 [.t 14],
 o1 16 (.data .not [.t 15]),
 oc 17 16,
 o2 18 (.load 2 [] 0 .nil 2 false) 3 false,
 ⟨false,[],[],.call 1 32 [.t 18] .no,[19],(some 19),some (3,false)⟩,
 o2 20 (.load 3 [] 0 .nil 2 false) 3 false,
 ⟨false,[],[],.call 1 9 [.t 19,.t 20] .no,[21],(some 21),some (3,false)⟩,
 o2 22 (.data .not [.t 21]) 3 false,
 o7 17 (.c (.bool true)) (.t 22) 23]))
 (.cond (.t 23)
 (.seq (.rg [o1 24 (.build Ty6 []),
 o1 25 (.build [.i .i64,.i .i64] []),
 o4 2 [4,24] (.store 4 [] 0 .nil (.t 24)),
 o4 1 [5] (.store 5 [] 0 .nil (.t 25)),
 ⟨false,[],[3000004001],.det 1 (.lit [.b] [.bool false]),[6,4],(some 6),none⟩,
 o1 7 (.lit [.b] [.bool false])])
 .ret)
 .skip))
 (.seq (.rg [oi 26,
 o1 27 (.load 2 [] 0 (.t 26) 1 false),
 o1 28 (.build Ty6 [(0,.t 27)]),
 o5 (.a (.c Ty6 [kV 0,.slice none 0 0])) 8 1000000009,
 o4 2 [8,28] (.store 8 [] 0 .nil (.t 28))])
 (.seq (.rg [o1 29 (.build Ty11 []),
 o5 (.a (.c Ty11 [kV 0,kV 0,kV 0,.bool false])) 9 1000000010,
 o4 1 [9] (.store 9 [] 0 .nil (.t 29))])
 (.seq (.join [⟨9,Ty11,false⟩,⟨8,Ty6,false⟩] 4722366482868571473664 none (.seq (.rg [o1 10 (kL 0)])
 (.block 0 (.loop [⟨9,Ty11,false⟩,⟨8,Ty6,false⟩,⟨10,[.i .i64],false⟩] 4722366482868571473664
 (.seq (.seq (.rg [oc 30 10,
 oi 31,
 o1 32 (.load 2 [] 1 (.t 31) 1 false),
 o1 33 (.len 32),
 o1 34 (.data (.bin .lss) [.t 30,.t 33])])
 (.cond (.t 34)
 .skip
 (.exit 0)))
 (.seq (.join [⟨9,Ty11,false⟩,⟨8,Ty6,false⟩] 4722366482732206260992 none (.block 1 (.seq (.join [⟨56,[.b],false⟩] 144115050636902400 none (.rg [oc 39 10,
 oi 37,
 o1 38 (.load 2 [] 1 (.t 37) 1 false),
 o1 40 (.index 38 (.t 39)),
 o1 41 (.idx (.t 40)),
 o1 42 (.load 38 [(0,4)] 0 (.t 41) 1 false),
 oi 43,
 o1 44 (.load 3 [] 0 (.t 43) 1 false),
 o1 45 (.data (.bin .eql) [.t 42,.t 44]),
 oc 46 45,
 o2 47 (.idx .nil) 9 true,
 o2 48 (.load 2 [] 1 (.t 47) 1 false) 9 true,
 o2 49 (.copy 10) 9 true,
 o2 50 (.index 48 (.t 49)) 9 true,
 o2 51 (.idx (.t 50)) 9 true,
 o2 52 (.load 48 [(0,4)] 1 (.t 51) 1 false) 9 true,
 o2 53 (.idx .nil) 9 true,
 o2 54 (.load 3 [] 1 (.t 53) 1 false) 9 true,
 o2 55 (.data (.bin .eql) [.t 52,.t 54]) 9 true,
 o7 46 (.t 55) (.c (.bool false)) 56]))
 (.cond (.t 56)
 (.rg [oi 57,
 o1 58 (.load 2 [] 1 (.t 57) 1 false),
 oc 59 10,
 o1 60 (.index 58 (.t 59)),
 o1 61 (.load 58 [(0,4)] 0 (.t 60) 4 false),
 o4 1 [9] (.store 9 [] 0 .nil (.t 61))])
 (.rg [oc 66 10,
 oi 62,
 o1 63 (.load 8 [] 1 (.t 62) 1 true),
 oi 64,
 o1 65 (.load 2 [] 1 (.t 64) 1 false),
 o1 67 (.index 65 (.t 66)),
 o1 68 (.load 65 [(0,4)] 0 (.t 67) 4 false),
 o1 69 (.sli Ty11 [.t 68]),
 ⟨false,[63],[],.det 2 (.app (some 63) 69),[70,63,63,8],(some 70),none⟩,
 oi 71,
 o4 2 [8,70,63] (.store 8 [] 1 (.t 71) (.t 70))])))))
 (.rg [oc 35 10,
 o1 36 (.data (.bin .add) [.t 35,kD 1]),
 oc 10 36])))))))
 (.seq (.seq (.rg [oi 72,
 o1 73 (.load 9 [] 3 (.t 72) 1 false),
 o1 74 (.data .not [.t 73])])
 (.cond (.t 74)
 (.seq (.rg [o1 75 (.load 8 [] 0 .nil 2 true),
 o1 76 (.build [.i .i64,.i .i64] []),
 ⟨false,[75],[],.det 2 (.store 4 [] 0 .nil (.t 75)),[4,75,75,8],none,none⟩,
 o4 1 [5] (.store 5 [] 0 .nil (.t 76)),
 ⟨false,[],[3000004001],.det 1 (.lit [.b] [.bool false]),[6,4],(some 6),none⟩,
 o1 7 (.lit [.b] [.bool true])])
 .ret)
 .skip))
 (.seq (.join [⟨8,Ty6,false⟩,⟨4,Ty6,false⟩,⟨5,[.i .i64,.i .i64],false⟩] 81129638263490954243960358320624 (some [⟨4,Ty6,false⟩,⟨5,[.i .i64,.i .i64],false⟩,⟨6,[.b],false⟩,⟨7,[.b],false⟩]) (.seq (.rg [⟨false,[],[3000008001],.det 1 (.idx .nil),[77,8],(some 77),none⟩,
 o1 78 (.load 9 [] 2 (.t 77) 1 false),
 oc 11 78])
 (.block 2 (.loop [⟨8,Ty6,false⟩,⟨4,Ty6,false⟩,⟨5,[.i .i64,.i .i64],false⟩,⟨11,[.i .i64],false⟩] 81129637810143771888474417805808
 (.seq (.seq (.rg [oc 79 11,
 o1 80 (.data (.bin .geq) [.t 79,kD 0])])
 (.cond (.t 80)
 .skip
 (.exit 2)))
 (.seq (.block 3 (.seq (.rg [o1 84 (.load 8 [] 0 .nil 2 false),
 o1 85 (.load 3 [] 0 .nil 2 false),
 oc 86 11,
 o3 87 101 [.t 84,.t 85,.t 86],
 o5 (.copy 87) 83 87,
 o5 (.ext 83 0 1) 88 83,
 o1 89 (.ext 83 1 1),
 o5 (.copy 88) 12 88,
 oc 13 89])
 (.seq (.rg [⟨true,[12],[],.det 1 (.copy 12),[90,12],(some 90),none⟩,
 oi 91,
 o4 1 [8] (.store 8 [] 1 (.t 91) (.t 90))])
 (.seq (.rg [oc 92 13,
 o1 93 (.data (.bin .geq) [.t 92,kD 0])])
 (.cond (.t 93)
 (.seq (.rg [oc 95 12,
 oc 96 13,
 oc 100 12,
 oc 101 13,
 o1 94 (.load 8 [] 0 .nil 2 false),
 ⟨false,[],[4],.det 1 (.index 95 (.t 96)),[97],(some 97),none⟩,
 ⟨false,[],[4],.det 1 (.idx (.t 97)),[98],(some 98),none⟩,
 ⟨false,[],[4],.det 1 (.load 95 [(0,4)] 0 (.t 98) 1 false),[99],(some 99),none⟩,
 ⟨false,[],[4],.det 1 (.index 100 (.t 101)),[102],(some 102),none⟩,
 ⟨false,[],[4],.det 1 (.idx (.t 102)),[103],(some 103),none⟩,
 ⟨false,[],[4],.det 1 (.load 100 [(0,4)] 1 (.t 103) 1 false),[104],(some 104),none⟩,
 ⟨false,[],[4],.det 1 (.build [.i .i64,.i .i64] [(0,.t 99),(1,.t 104)]),[105],(some 105),none⟩,
 o4 1 [4] (.store 4 [] 0 .nil (.t 94)),
 o4 1 [5] (.store 5 [] 0 .nil (.t 105)),
 o1 6 (.lit [.b] [.bool true]),
 o1 7 (.lit [.b] [.bool true])])
 .ret)
 .skip)))))
 (.rg [oc 81 11,
 o1 82 (.data (.bin .sub) [.t 81,kD 1]),
 oc 11 82])))))))
 (.seq (.rg [o1 106 (.load 8 [] 0 .nil 2 false),
 o1 107 (.build [.i .i64,.i .i64] []),
 o4 1 [4] (.store 4 [] 0 .nil (.t 106)),
 o4 1 [5] (.store 5 [] 0 .nil (.t 107)),
 o1 6 (.lit [.b] [.bool false]),
 o1 7 (.lit [.b] [.bool true])])
 .ret))))))))
def s_sWebTake:Sig:=⟨[.rd true Ct4,.rd true [.d,.d]],(.tup [(true,2),(true,2),(false,1),(false,1)] [.d,.sl (.ro []) [.d,.d,.d,.d],.d,.d,.d,.d])⟩
def E_sWebTake:TEnv:=envOf [(15,p_sWebOk),(32,p_sGraphOf),(9,p_sHasEdge),(101,p_sl08Search)]
def f_sWebTake (n:Nat):(Int × List (Int × Int × Int × Bool)) × (Int × Int)->Option ((Int × List (Int × Int × Int × Bool) × Int × Int × Bool × Bool) × Unit):=runFn n E_sWebTake c_sWebTake [Ty6,[.i .i64,.i .i64]] Ty2 [] [4,5,6,7] .no
def g_sWebTake:=f_sWebTake BIG
def p_sWebTake:TSp:=⟨s_sWebTake,[Ty6,[.i .i64,.i .i64]],Ty2,[],Ou.j .no,g_sWebTake⟩
theorem k_sWebTake:chkW PG E_sWebTake 71 s_sWebTake (c_sWebTake.ht 108) .no=some (c_sWebTake.wc E_sWebTake,[4,5,6,7]):=by kernel_rfl
theorem ok_sWebTake:p_sWebTake.Ok PG 71:=mkOk (env_cons ok_sWebOk (env_cons ok_sGraphOf (env_cons ok_sHasEdge (env_cons ok_sl08Search (env_nil PG))))) k_sWebTake (by kernel_rfl)
theorem e_sWebTake (n) (a0) (a1):f_sWebTake n (a0,a1) =
 Option.bind (Option.bind (g_sWebOk a0) fun r0=>
  bif !r0.1 then
   some true
  else Option.bind (g_sGraphOf a0) fun r1=>
  Option.bind (g_sHasEdge (r1.1,a1)) fun r2=>
  some !r2.1:Option (Bool)) fun x3=>
 bif x3 then
  some (((0:Int),[],(0:Int),(0:Int),false,false),())
 else Option.bind (loopT n (X:=(Int × Int × Int × Bool) × (Int × List (Int × Int × Int × Bool)) × Int) (B:=(Int × Int × Int × Bool) × (Int × List (Int × Int × Int × Bool))) (fun self5 x4=>
  bif decide (x4.2.2<(a0.2.length:Int)) then
   Option.bind (Option.bind (bnd a0.2.length x4.2.2 fun n6=>
    Option.bind a0.2[n6]? fun y7=>
    bif decide (y7.1=a1.1) then
     bnd a0.2.length x4.2.2 fun n8=>
     Option.bind a0.2[n8]? fun y9=>
     some (decide (y9.2.1=a1.2))
    else some false:Option (Bool)) fun x10=>
    bif x10 then
     bnd a0.2.length x4.2.2 fun n11=>
     Option.bind a0.2[n11]? fun y12=>
     some (y12,x4.2.1)
    else bnd a0.2.length x4.2.2 fun n13=>
    Option.bind a0.2[n13]? fun y14=>
    bif decide (x4.2.1.2.length+[y14].length<=4294967296) then
     some (x4.1,(x4.2.1.1,x4.2.1.2++[y14]))
    else none:Option ((Int × Int × Int × Bool) × (Int × List (Int × Int × Int × Bool)))) fun x15=>
   self5 (x15.1,x15.2,IntKind.wrap .i64 (x4.2.2+(1:Int)))
  else some (x4.1,x4.2.1)) (((0:Int),(0:Int),(0:Int),false),(a0.1,[]),(0:Int)):Option ((Int × Int × Int × Bool) × (Int × List (Int × Int × Int × Bool)))) fun x16=>
 bif !x16.1.2.2.2 then
  some ((x16.2.1,x16.2.2,(0:Int),(0:Int),false,true),())
 else Option.bind (loopT n (X:=(Int × List (Int × Int × Int × Bool)) × (Int × List (Int × Int × Int × Bool)) × (Int × Int) × Int) (B:=((Int × List (Int × Int × Int × Bool)) × (Int × List (Int × Int × Int × Bool)) × (Int × Int)) ⊕ ((Int × List (Int × Int × Int × Bool)) × (Int × Int) × Bool × Bool)) (fun self18 x17=>
  bif decide ((0:Int)<=x17.2.2.2) then
   Option.bind (g_sl08Search (x17.1,a1,x17.2.2.2)) fun r19=>
   bif decide ((0:Int)<=r19.1.2) then
    bnd r19.1.1.length r19.1.2 fun n20=>
    Option.bind r19.1.1[n20]? fun y21=>
    bnd r19.1.1.length r19.1.2 fun n22=>
    Option.bind r19.1.1[n22]? fun y23=>
    some (Sum.inr ((x17.1.1,r19.1.1),(y21.1,y23.2.1),true,true))
   else self18 ((x17.1.1,r19.1.1),x17.2.1,x17.2.2.1,IntKind.wrap .i64 (x17.2.2.2-(1:Int)))
  else some (Sum.inl (x17.1,x17.2.1,x17.2.2.1))) (x16.2,((0:Int),[]),((0:Int),(0:Int)),x16.1.2.2.1):Option (((Int × List (Int × Int × Int × Bool)) × (Int × List (Int × Int × Int × Bool)) × (Int × Int)) ⊕ ((Int × List (Int × Int × Int × Bool)) × (Int × Int) × Bool × Bool))) fun y=>match y with
 | .inl x24=>
  some ((x24.1.1,x24.1.2,(0:Int),(0:Int),false,true),())
 | .inr x24=>
  some ((x24.1.1,x24.1.2,x24.2.1.1,x24.2.1.2,x24.2.2),()):=by kernel_rfl
def c_sObey:TC:=
 (.seq (.rg [o1 2 (.a (.t 0)),
 o1 3 (.a (.t 1)),
 o5 (.a (.c Ty1 [kV 0,kV 0,.slice none 0 0,kV 0,.bool false,.slice none 0 0,.slice none 0 0])) 4 1000000005,
 o5 (.a (.c Ty3 [kV 0,.bool false,.slice none 0 0,.slice none 0 0])) 5 1000000006,
 o1 6 (kL 0)])
 (.seq (.seq (.join [⟨45,[.b],false⟩] 70368743915520 none (.rg [o1 18 (.load 2 [] 0 .nil 7 false),
 o3 19 66 [.t 18],
 o1 20 (.data .not [.t 19]),
 oc 21 20,
 o2 22 (.idx .nil) 3 false,
 o2 23 (.idx (.t 22)) 3 false,
 o2 24 (.load 2 [] 1 (.t 23) 1 false) 3 false,
 o2 25 (.load 3 [] 0 .nil 4 false) 3 false,
 ⟨false,[],[],.call 1 67 [.t 24,.t 25] .no,[26],(some 26),some (3,false)⟩,
 o2 27 (.data .not [.t 26]) 3 false,
 o7 21 (.c (.bool true)) (.t 27) 28,
 oc 29 28,
 o2 30 (.idx .nil) 11 false,
 o2 31 (.load 3 [] 0 (.t 30) 1 false) 11 false,
 o2 32 (.idx .nil) 11 false,
 o2 33 (.idx (.t 32)) 11 false,
 o2 34 (.load 2 [] 3 (.t 33) 1 false) 11 false,
 o2 35 (.data (.bin .neq) [.t 31,.t 34]) 11 false,
 o2 36 (.copy 35) 11 false,
 o2 37 (.idx .nil) 18 true,
 o2 38 (.load 3 [] 0 (.t 37) 1 false) 18 true,
 o2 39 (.idx .nil) 18 true,
 o2 40 (.idx (.t 39)) 18 true,
 o2 41 (.load 2 [] 3 (.t 40) 1 false) 18 true,
 o2 42 (.data (.bin .add) [.t 41,kD 1]) 18 true,
 o2 43 (.data (.bin .neq) [.t 38,.t 42]) 18 true,
 ⟨false,[],[],.pick 36 (.t 43) (.c (.bool false)),[44],(some 44),some (11,false)⟩,
 o7 29 (.c (.bool true)) (.t 44) 45]))
 (.cond (.t 45)
 (.seq (.rg [o1 46 (.build Ty1 []),
 o1 47 (.build Ty3 []),
 o4 2 [4,46] (.store 4 [] 0 .nil (.t 46)),
 o4 2 [5,47] (.store 5 [] 0 .nil (.t 47)),
 o1 6 (kL 1)])
 .ret)
 .skip))
 (.seq (.seq (.rg [oi 48,
 o1 49 (.load 3 [] 0 (.t 48) 1 false),
 oi 50,
 o1 51 (.idx (.t 50)),
 o1 52 (.load 2 [] 3 (.t 51) 1 false),
 o1 53 (.data (.bin .eql) [.t 49,.t 52])])
 (.cond (.t 53)
 (.seq (.rg [o1 54 (.load 2 [] 0 .nil 7 false),
 o3 55 68 [.t 54],
 oi 56,
 o1 57 (.load 2 [] 3 (.t 56) 4 false),
 o3 58 69 [.t 57],
 o4 2 [4,55] (.store 4 [] 0 .nil (.t 55)),
 o4 2 [5,58] (.store 5 [] 0 .nil (.t 58)),
 o1 6 (kL 0)])
 .ret)
 .skip))
 (.seq (.rg [oi 59,
 o1 60 (.load 3 [] 0 (.t 59) 1 false),
 o5 (.build Ty3 [(0,.t 60),(1,.c [.b] [.bool true])]) 61 1000000002,
 o5 (.a (.c Ty3 [kV 0,.bool false,.slice none 0 0,.slice none 0 0])) 7 1000000008,
 o4 2 [7,61] (.store 7 [] 0 .nil (.t 61))])
 (.seq (.rg [⟨false,[],[3000002002],.det 1 (.idx .nil),[62,2,50,51],(some 62),none⟩,
 o1 63 (.load 2 [] 1 (.t 62) 2 false),
 o5 (.a (.c Ty6 [kV 0,.slice none 0 0])) 8 1000000009,
 o4 1 [8] (.store 8 [] 0 .nil (.t 63))])
 (.seq (.join [⟨8,Ty6,false⟩,⟨7,Ty3,false⟩] 1461501637330902918203684832697836275582223253376 none (.seq (.rg [oi 64,
 o1 65 (.load 3 [] 1 (.t 64) 1 false)])
 (.block 0 (.seq (.join [⟨66,[.b],false⟩] 516508834063867445248 none (.seq (.rg [o1 67 (.data (.bin .eql) [.t 65,kD 1]),
 oc 66 67])
 (.cond (.t 66)
 .skip
 (.rg [o1 68 (.data (.bin .eql) [.t 65,kD 4]),
 oc 66 68]))))
 (.cond (.t 66)
 (.seq (.rg [o1 9 (kL 0)])
 (.block 1 (.loop [⟨8,Ty6,false⟩,⟨7,Ty3,false⟩,⟨9,[.i .i64],false⟩] 19807040038270274039680339840
 (.seq (.seq (.rg [oc 69 9,
 oi 70,
 o1 71 (.load 3 [] 2 (.t 70) 1 false),
 o1 72 (.len 71),
 o1 73 (.data (.bin .lss) [.t 69,.t 72])])
 (.cond (.t 73)
 .skip
 (.exit 1)))
 (.seq (.join [⟨8,Ty6,false⟩,⟨7,Ty3,false⟩] 19806965070702358484062571904 none (.block 2 (.seq (.rg [oc 80 9,
 ⟨false,[],[1000000011],.det 1 (.load 8 [] 0 .nil 2 false),[77],(some 77),none⟩,
 ⟨false,[],[1000000011],.det 1 (.idx .nil),[78],(some 78),none⟩,
 ⟨false,[],[1000000011],.det 1 (.load 3 [] 2 (.t 78) 1 false),[79],(some 79),none⟩,
 ⟨false,[],[1000000011],.det 1 (.index 79 (.t 80)),[81],(some 81),none⟩,
 ⟨false,[],[1000000011],.det 1 (.load 79 [(0,2)] 0 (.t 81) 2 false),[82],(some 82),none⟩,
 ⟨false,[],[1000000011],.call 1 70 [.t 77,.t 82] .no,[83],(some 83),none⟩,
 ⟨false,[],[1000000011],.det 2 (.copy 83),[76,83],(some 76),none⟩,
 ⟨false,[],[1000000011],.det 2 (.ext 76 0 2),[84,76],(some 84),none⟩,
 ⟨false,[],[1000000011],.det 1 (.ext 76 2 1),[85],(some 85),none⟩,
 o5 (.a (.c Ty6 [kV 0,.slice none 0 0])) 10 1000000011,
 o4 2 [10,84] (.store 10 [] 0 .nil (.t 84)),
 oc 11 85])
 (.seq (.join [⟨8,Ty6,false⟩] 232113757366008801543587072 none (.seq (.rg [oc 86 11])
 (.cond (.t 86)
 (.rg [⟨false,[],[3000010001],.det 1 (.load 10 [] 0 .nil 2 false),[87,10],(some 87),none⟩,
 o4 1 [8] (.store 8 [] 0 .nil (.t 87))])
 .skip)))
 (.join [⟨7,Ty3,false⟩] 19497555618744739329661206656 none (.rg [oi 88,
 o1 89 (.load 7 [] 1 (.t 88) 1 false),
 oc 90 89,
 o2 91 (.copy 11) 2 true,
 o7 90 (.t 91) (.c (.bool false)) 92,
 oi 93,
 o4 1 [7] (.store 7 [] 1 (.t 93) (.t 92))]))))))
 (.rg [oc 74 9,
 o1 75 (.data (.bin .add) [.t 74,kD 1]),
 oc 9 75]))))))
 (.seq (.rg [o1 95 (.data (.bin .eql) [.t 65,kD 2]),
 oc 94 95])
 (.cond (.t 94)
 (.seq (.rg [⟨false,[],[1000000013,1000000014],.det 1 (.load 8 [] 0 .nil 2 false),[97],(some 97),none⟩,
 ⟨false,[],[1000000013,1000000014],.det 1 (.idx .nil),[98],(some 98),none⟩,
 ⟨false,[],[1000000013,1000000014],.det 1 (.load 3 [] 2 (.t 98) 1 false),[99],(some 99),none⟩,
 ⟨false,[],[1000000013,1000000014],.det 1 (.index 99 (kD 0)),[100],(some 100),none⟩,
 ⟨false,[],[1000000013,1000000014],.det 1 (.load 99 [(0,2)] 0 (.t 100) 2 false),[101],(some 101),none⟩,
 ⟨false,[],[1000000013,1000000014],.call 1 71 [.t 97,.t 101] .no,[102],(some 102),none⟩,
 ⟨false,[],[1000000013,1000000014],.det 2 (.copy 102),[96,102],(some 96),none⟩,
 ⟨false,[],[1000000013,1000000014],.det 1 (.ext 96 0 2),[103],(some 103),none⟩,
 ⟨false,[],[1000000013,1000000014],.det 1 (.ext 96 2 2),[104],(some 104),none⟩,
 ⟨false,[],[1000000013,1000000014],.det 1 (.ext 96 4 1),[105],(some 105),none⟩,
 ⟨false,[],[1000000013,1000000014],.det 1 (.ext 96 5 1),[106],(some 106),none⟩,
 ⟨false,[],[1000000014],.det 2 (.a (.c Ty6 [kV 0,.slice none 0 0])),[12,1000000013],(some 12),none⟩,
 ⟨false,[],[1000000013],.det 2 (.a (.c [.i .i64,.i .i64] [kV 0,kV 0])),[13,1000000014],(some 13),none⟩,
 o4 1 [12] (.store 12 [] 0 .nil (.t 103)),
 o4 1 [13] (.store 13 [] 0 .nil (.t 104)),
 oc 14 105,
 oc 15 106])
 (.seq (.join [⟨8,Ty6,false⟩] 486777830487640090174734030864640 none (.seq (.rg [oc 107 15])
 (.cond (.t 107)
 (.rg [o1 108 (.load 12 [] 0 .nil 2 false),
 o4 1 [8] (.store 8 [] 0 .nil (.t 108))])
 .skip)))
 (.rg [oc 109 15,
 oi 110,
 o4 1 [7] (.store 7 [] 1 (.t 110) (.t 109))])))
 (.seq (.rg [o1 112 (.data (.bin .eql) [.t 65,kD 3]),
 oc 111 112])
 (.cond (.t 111)
 (.seq (.rg [o1 113 (.load 8 [] 0 .nil 2 false),
 o3 114 32 [.t 113],
 o5 (.ext 114 1 1) 115 114,
 o5 (.copy 115) 16 115])
 (.seq (.rg [o1 17 (kL 0)])
 (.block 3 (.loop [⟨8,Ty6,false⟩,⟨7,Ty3,false⟩,⟨17,[.i .i64],false⟩] 1461501637330819841453948275474226531714665152896
 (.seq (.seq (.rg [oc 116 17,
 o6 117 16,
 o1 118 (.len 117),
 o1 119 (.data (.bin .lss) [.t 116,.t 118])])
 (.cond (.t 119)
 .skip
 (.exit 3)))
 (.seq (.join [⟨8,Ty6,false⟩,⟨7,Ty3,false⟩] 1461501637325586006220545169224667791414811165056 none (.block 4 (.seq (.join [⟨139,[.b],false⟩] 1393791257996180806682490776812281472745472 none (.rg [o6 122 16,
 oc 123 17,
 o1 124 (.index 122 (.t 123)),
 o1 125 (.idx (.t 124)),
 o1 126 (.load 16 [(0,2)] 0 (.t 125) 1 false),
 oi 127,
 o1 128 (.load 3 [] 3 (.t 127) 1 false),
 o1 129 (.data (.bin .eql) [.t 126,.t 128]),
 oc 130 129,
 ⟨true,[],[],.det 1 (.copy 16),[131],(some 131),some (8,false)⟩,
 o2 132 (.copy 17) 8 false,
 o2 133 (.index 131 (.t 132)) 8 false,
 o2 134 (.idx (.t 133)) 8 false,
 o2 135 (.load 16 [(0,2)] 1 (.t 134) 1 false) 8 false,
 o2 136 (.idx .nil) 8 false,
 o2 137 (.load 3 [] 3 (.t 136) 1 false) 8 false,
 o2 138 (.data (.bin .eql) [.t 135,.t 137]) 8 false,
 o7 130 (.c (.bool true)) (.t 138) 139]))
 (.cond (.t 139)
 (.seq (.rg [o6 142 16,
 oc 143 17,
 o1 141 (.load 8 [] 0 .nil 2 false),
 o1 144 (.index 142 (.t 143)),
 o1 145 (.load 16 [(0,2)] 0 (.t 144) 2 false),
 o3 146 71 [.t 141,.t 145],
 o5 (.copy 146) 140 146,
 o1 147 (.ext 140 0 2),
 o1 148 (.ext 140 2 2),
 o1 149 (.ext 140 4 1),
 o1 150 (.ext 140 5 1),
 o4 1 [8] (.store 8 [] 0 .nil (.t 147))])
 (.rg [o6 153 16,
 oc 154 17,
 oi 151,
 o1 152 (.load 7 [] 2 (.t 151) 1 true),
 o1 155 (.index 153 (.t 154)),
 o1 156 (.load 16 [(0,2)] 0 (.t 155) 2 false),
 o1 157 (.sli [.i .i64,.i .i64] [.t 156]),
 ⟨false,[152],[],.det 2 (.app (some 152) 157),[158,152,152,7],(some 158),none⟩,
 oi 159,
 o4 2 [7,158,152] (.store 7 [] 2 (.t 159) (.t 158))]))
 .skip))))
 (.rg [oc 120 17,
 o1 121 (.data (.bin .add) [.t 120,kD 1]),
 oc 17 121])))))))
 .skip)))))))))
 (.seq (.rg [o1 160 (.load 8 [] 0 .nil 2 false),
 o3 161 28 [.t 160],
 oi 162,
 o4 2 [7,161] (.store 7 [] 3 (.t 162) (.t 161))])
 (.seq (.rg [oi 163,
 o1 164 (.load 2 [] 0 (.t 163) 1 false),
 o1 165 (.load 8 [] 0 .nil 2 false),
 o1 166 (.load 7 [] 0 .nil 4 true),
 o1 167 (.build Ty1 [(0,.t 164),(1,.t 165),(3,.t 166)]),
 o3 168 68 [.t 167],
 o1 169 (.load 7 [] 0 .nil 4 true),
 o3 170 69 [.t 169],
 o4 2 [4,168] (.store 4 [] 0 .nil (.t 168)),
 o4 2 [5,170] (.store 5 [] 0 .nil (.t 170)),
 o1 6 (kL 0)])
 .ret))))))))
def s_sObey:Sig:=⟨[.rd true Ct0,.rd true Ct3],(.tup [(true,7),(true,4),(false,1)] [.d,.d,.sl (.own none) [.d,.d,.d,.d],.d,.d,.sl (.own none) [.d,.d],.sl (.own none) [.d],.d,.d,.sl (.own none) [.d,.d],.sl (.own none) [.d],.d])⟩
def E_sObey:TEnv:=envOf [(66,p_sShardOk),(67,p_sOrderOk),(68,p_sl10Copy),(69,p_sl09CopyAnswer),(70,p_sWebAdd),(71,p_sWebTake),(32,p_sGraphOf),(28,p_sWebLabels)]
def f_sObey (n:Nat):(Int × Int × List (Int × Int × Int × Bool) × Int × Bool × List (Int × Int) × List (Int)) × (Int × Int × List (Int × Int) × Int)->Option ((Int × Int × List (Int × Int × Int × Bool) × Int × Bool × List (Int × Int) × List (Int) × Int × Bool × List (Int × Int) × List (Int) × Int) × Unit):=runFn n E_sObey c_sObey [Ty1,Ty4] Ty0 [] [4,5,6] .no
def g_sObey:=f_sObey BIG
def p_sObey:TSp:=⟨s_sObey,[Ty1,Ty4],Ty0,[],Ou.j .no,g_sObey⟩
theorem k_sObey:chkW PG E_sObey 24 s_sObey (c_sObey.ht 171) .no=some (c_sObey.wc E_sObey,[4,5,6]):=by kernel_rfl
theorem ok_sObey:p_sObey.Ok PG 24:=mkOk (env_cons ok_sShardOk (env_cons ok_sOrderOk (env_cons ok_sl10Copy (env_cons ok_sl09CopyAnswer (env_cons ok_sWebAdd (env_cons ok_sWebTake (env_cons ok_sGraphOf (env_cons ok_sWebLabels (env_nil PG))))))))) k_sObey (by kernel_rfl)
theorem e_sObey (n) (a0) (a1):f_sObey n (a0,a1) =
 Option.bind (Option.bind (g_sShardOk a0) fun r0=>
 bif !r0.1 then
 some true
 else Option.bind (g_sOrderOk (a0.2.1,a1)) fun r1=>
 bif !r1.1 then
 some true
 else bif !decide (a1.1=a0.2.2.2.1) then
 some (!decide (a1.1=(IntKind.wrap .i64 (a0.2.2.2.1+(1:Int)))))
 else some false:Option (Bool)) fun x2=>
 bif x2 then
 some (((0:Int),(0:Int),[],(0:Int),false,[],[],(0:Int),false,[],[],(1:Int)),())
 else bif decide (a1.1=a0.2.2.2.1) then
 Option.bind (g_sl10Copy a0) fun r3=>
 Option.bind (g_sl09CopyAnswer a0.2.2.2) fun r4=>
 some ((r3.1.1,r3.1.2.1,r3.1.2.2.1,r3.1.2.2.2.1,r3.1.2.2.2.2.1,r3.1.2.2.2.2.2.1,r3.1.2.2.2.2.2.2,r4.1.1,r4.1.2.1,r4.1.2.2.1,r4.1.2.2.2,(0:Int)),())
 else Option.bind (Option.bind (bif decide (a1.2.1=(1:Int)) then
 some true
 else some (decide (a1.2.1=(4:Int))):Option (Bool)) fun x5=>
 bif x5 then
 loopT n (X:=(Int × List (Int × Int × Int × Bool)) × (Int × Bool × List (Int × Int) × List (Int)) × Int) (B:=(Int × List (Int × Int × Int × Bool)) × (Int × Bool × List (Int × Int) × List (Int))) (fun self7 x6=>
 bif decide (x6.2.2<(a1.2.2.1.length:Int)) then
 Option.bind (bnd a1.2.2.1.length x6.2.2 fun n8=>
 Option.bind a1.2.2.1[n8]? fun y9=>
 Option.bind (g_sWebAdd (x6.1,y9)) fun r10=>
 Option.bind (bif r10.1.2.2 then
 some (r10.1.1,r10.1.2.1)
 else some x6.1:Option ((Int × List (Int × Int × Int × Bool)))) fun x11=>
 Option.bind (bif x6.2.1.2.1 then
 some (x6.2.1.1,r10.1.2.2,x6.2.1.2.2)
 else some (x6.2.1.1,false,x6.2.1.2.2):Option ((Int × Bool × List (Int × Int) × List (Int)))) fun x12=>
 some (x11,x12):Option ((Int × List (Int × Int × Int × Bool)) × (Int × Bool × List (Int × Int) × List (Int)))) fun x13=>
 self7 (x13.1,x13.2,IntKind.wrap .i64 (x6.2.2+(1:Int)))
 else some (x6.1,x6.2.1)) ((a0.2.1,a0.2.2.1),(a1.1,true,[],[]),(0:Int))
 else bif decide (a1.2.1=(2:Int)) then
 bnd a1.2.2.1.length (0:Int) fun n14=>
 Option.bind a1.2.2.1[n14]? fun y15=>
 Option.bind (g_sWebTake ((a0.2.1,a0.2.2.1),y15)) fun r16=>
 Option.bind (bif r16.1.2.2.2.2.2 then
 some (r16.1.1,r16.1.2.1)
 else some (a0.2.1,a0.2.2.1):Option ((Int × List (Int × Int × Int × Bool)))) fun x17=>
 some (x17,(a1.1,r16.1.2.2.2.2.2,[],[]))
 else bif decide (a1.2.1=(3:Int)) then
 Option.bind (g_sGraphOf (a0.2.1,a0.2.2.1)) fun r18=>
 loopT n (X:=(Int × List (Int × Int × Int × Bool)) × (Int × Bool × List (Int × Int) × List (Int)) × Int) (B:=(Int × List (Int × Int × Int × Bool)) × (Int × Bool × List (Int × Int) × List (Int))) (fun self20 x19=>
 bif decide (x19.2.2<(r18.1.2.length:Int)) then
 Option.bind (Option.bind (bnd r18.1.2.length x19.2.2 fun n21=>
 Option.bind r18.1.2[n21]? fun y22=>
 bif decide (y22.1=a1.2.2.2) then
 some true
 else bnd r18.1.2.length x19.2.2 fun n23=>
 Option.bind r18.1.2[n23]? fun y24=>
 some (decide (y24.2=a1.2.2.2)):Option (Bool)) fun x25=>
 bif x25 then
 bnd r18.1.2.length x19.2.2 fun n26=>
 Option.bind r18.1.2[n26]? fun y27=>
 Option.bind (g_sWebTake (x19.1,y27)) fun r28=>
 bnd r18.1.2.length x19.2.2 fun n29=>
 Option.bind r18.1.2[n29]? fun y30=>
 bif decide (x19.2.1.2.2.1.length+[y30].length<=4294967296) then
 some ((r28.1.1,r28.1.2.1),(x19.2.1.1,x19.2.1.2.1,x19.2.1.2.2.1++[y30],x19.2.1.2.2.2))
 else none
 else some (x19.1,x19.2.1):Option ((Int × List (Int × Int × Int × Bool)) × (Int × Bool × List (Int × Int) × List (Int)))) fun x31=>
 self20 (x31.1,x31.2,IntKind.wrap .i64 (x19.2.2+(1:Int)))
 else some (x19.1,x19.2.1)) ((a0.2.1,a0.2.2.1),(a1.1,true,[],[]),(0:Int))
 else some ((a0.2.1,a0.2.2.1),(a1.1,true,[],[])):Option ((Int × List (Int × Int × Int × Bool)) × (Int × Bool × List (Int × Int) × List (Int)))) fun x32=>
 Option.bind (g_sWebLabels x32.1) fun r33=>
 Option.bind (g_sl10Copy (a0.1,x32.1.1,x32.1.2,x32.2.1,x32.2.2.1,x32.2.2.2.1,r33.1)) fun r34=>
 Option.bind (g_sl09CopyAnswer (x32.2.1,x32.2.2.1,x32.2.2.2.1,r33.1)) fun r35=>
 some ((r34.1.1,r34.1.2.1,r34.1.2.2.1,r34.1.2.2.2.1,r34.1.2.2.2.2.1,r34.1.2.2.2.2.2.1,r34.1.2.2.2.2.2.2,r35.1.1,r35.1.2.1,r35.1.2.2.1,r35.1.2.2.2,(0:Int)),()):=by kernel_rfl
end
end Go.Fw
