/- The given functions, as what they compute; each is shown to be what the code does. No conditions. -/
import Derived.Test.YtjjfihpihnifcaaGreatG5
import Derived.Test.YtjjfihpihnifcaaGreatProg
set_option linter.unusedVariables false
set_option linter.unusedSimpArgs false
namespace Go.Fw
noncomputable abbrev PG:=Go.Proofs.Tryz.prog
def o2 (d:Nat) (e:ED) (j:Nat) (b:Bool):TO:=⟨false,[],[],.det 1 e,[d],some d,some (j,b)⟩
def o3 (d:Nat) (K:FuncId) (gets:List OY):TO:=⟨false,[],[],.call 1 K gets .no,[d],some d,none⟩
def o4 (n:Nat) (ds:List Nat) (e:ED):TO:=⟨false,[],[],.det n e,ds,none,none⟩
abbrev Ty0 : List TY := [.i .i64, .sl [.i .i64], .sl [.i .i64, .i .i64], .sl [.sl [.i .i64]], .sl [.i .i64], .i .i64, .i .i64, .i .i64, .i .i64, .i .i64, .i .i64, .i .i64, .sl [.i .i64, .i .i64], .i .i64, .sl [.i .i64, .i .i64, .i .i64, .i .i64, .i .i64, .i .i64], .i .i64]
abbrev Ty1 : List TY := [.i .i64, .sl [.i .i64], .sl [.i .i64, .i .i64], .sl [.sl [.i .i64]], .sl [.i .i64], .i .i64, .i .i64, .i .i64, .i .i64, .i .i64, .i .i64, .i .i64, .sl [.i .i64, .i .i64], .i .i64, .sl [.i .i64, .i .i64, .i .i64, .i .i64, .i .i64, .i .i64], .b]
abbrev Ty2 : List TY := [.i .i64, .sl [.i .i64], .sl [.i .i64, .i .i64], .sl [.sl [.i .i64]], .sl [.i .i64], .i .i64, .i .i64, .i .i64, .i .i64, .i .i64, .i .i64, .i .i64, .sl [.i .i64, .i .i64], .i .i64, .sl [.i .i64, .i .i64, .i .i64, .i .i64, .i .i64, .i .i64]]
abbrev Ty3 : List TY := [.sl [.i .i64, .i .i64, .i .i64, .i .i64, .i .i64, .i .i64, .i .i64, .b, .sl [.i .i64, .i .i64], .sl [.i .i64], .i .i64, .i .i64, .sl [.i .i64, .i .i64], .i .i64]]
abbrev Ty4 : List TY := [.i .i64, .i .i64, .i .i64, .i .i64, .i .i64, .i .i64, .i .i64, .b, .sl [.i .i64, .i .i64], .sl [.i .i64], .i .i64, .i .i64, .sl [.i .i64, .i .i64], .i .i64]
abbrev Ty5 : List TY := [.i .i64, .i .i64, .i .i64, .i .i64, .i .i64, .i .i64, .i .i64, .sl [.i .i64, .i .i64], .i .i64]
abbrev Ty6 : List TY := [.sl [.i .i64, .i .i64, .i .i64, .i .i64, .i .i64, .i .i64], .b]
abbrev Ty7 : List TY := [.sl [.i .i64, .i .i64, .i .i64, .i .i64, .i .i64, .i .i64]]
abbrev Ty8 : List TY := [.i .i64, .i .i64, .i .i64, .i .i64, .i .i64, .i .i64]
abbrev Ty9 : List TY := [.i .i64, .b, .sl [.i .i64, .i .i64], .sl [.i .i64]]
abbrev Ty10 : List TY := [.i .i64, .i .i64, .sl [.i .i64, .i .i64], .i .i64]
abbrev Ty11 : List TY := [.i .i64, .i .i64, .i .i64, .i .i64]
abbrev Ct0:List CT:=[.d,.sl (.own none) [.d],.sl (.own none) [.d,.d],.sl (.own none) [.sl (.own none) [.d]],.sl (.own none) [.d],.d,.d,.d,.d,.d,.d,.d,.sl (.own none) [.d,.d],.d,.sl (.own none) [.d,.d,.d,.d,.d,.d],.d]
abbrev Ct1:List CT:=[.d,.sl (.own none) [.d],.sl (.own none) [.d,.d],.sl (.own none) [.sl (.own none) [.d]],.sl (.own none) [.d],.d,.d,.d,.d,.d,.d,.d,.sl (.own none) [.d,.d],.d,.sl (.own none) [.d,.d,.d,.d,.d,.d]]
abbrev Ct2:List CT:=[.sl (.own none) [.d,.d,.d,.d,.d,.d,.d,.d,.sl (.own none) [.d,.d],.sl (.own none) [.d],.d,.d,.sl (.own none) [.d,.d],.d]]
abbrev Ct3:List CT:=[.d,.d,.d,.d,.d,.d,.d,.d,.sl (.own none) [.d,.d],.sl (.own none) [.d],.d,.d,.sl (.own none) [.d,.d],.d]
abbrev Ct4:List CT:=[.d,.d,.sl (.own none) [.d,.d],.sl (.own none) [.d]]
abbrev Ct5:List CT:=[.d,.d,.d,.d,.d,.d,.d,.sl (.own none) [.d,.d],.d]
abbrev Ct6:List CT:=[.sl (.own none) [.d,.d,.d,.d,.d,.d]]
abbrev Ct7:List CT:=[.d,.d,.sl (.own none) [.d,.d],.d]
abbrev Ct8:List CT:=[.sl (.own none) [.d,.d]]
abbrev Ct9:List CT:=[.sl (.own none) [.d]]
abbrev Ct10:List CT:=[.d,.d,.d,.d,.d,.d]
def oc (d s:Nat):TO:=o1 d (.copy s)
def oi (d:Nat):TO:=o1 d (.idx .nil)
def o5 (e:ED) (d x:Nat):TO:=⟨false,[],[],.det 2 e,[d,x],some d,none⟩
def o6 (d s:Nat):TO:=⟨true,[],[],.det 1 (.copy s),[d],some d,none⟩
def o7 (a:Nat) (x y:DX) (d:Nat):TO:=⟨false,[],[],.pick a x y,[d],some d,none⟩
abbrev kV (n:Int):Value:=.int .i64 n
abbrev kO (n:Int):OY:=.c [.i .i64] [kV n]
abbrev kD (n:Int):DX:=.c (kV n)
abbrev kL (n:Int):ED:=.lit [.i .i64] [kV n]
abbrev iI:TY:=.i .i64
end Go.Fw
namespace Go.Fw
noncomputable section
def c_lszEdgeS:TC:=
 (.seq (.rg [o1 4 (kL 0)])
 (.seq (.rg [oc 5 1,
 oc 6 0,
 o1 7 (.len 6),
 o1 8 (.data (.bin .sub) [.t 5,.t 7]),
 oc 1 8])
 (.seq (.seq (.rg [oc 9 1,
 o1 10 (.data (.bin .lss) [.t 9,kD 0])])
 (.cond (.t 10)
 (.seq (.rg [o1 4 (kL (-1))])
 .ret)
 .skip))
 (.seq (.rg [oc 11 1,
 oc 4 11])
 .ret))))
def s_lszEdgeS:Sig:=⟨[.rd false Ct8,.rd false [.d]],(.one false [.d])⟩
def E_lszEdgeS:TEnv:=envOf []
def f_lszEdgeS (n:Nat):(List (Int × Int)) × Int->Option ((Int) × Unit):=runFn n E_lszEdgeS c_lszEdgeS [[.sl [.i .i64,.i .i64]],[.i .i64]] [.i .i64] [] [4] .no
def g_lszEdgeS:=f_lszEdgeS BIG
def p_lszEdgeS:TSp:=⟨s_lszEdgeS,[[.sl [.i .i64,.i .i64]],[.i .i64]],[.i .i64],[],Ou.j .no,g_lszEdgeS⟩
theorem k_lszEdgeS:chkW PG E_lszEdgeS 78 s_lszEdgeS (c_lszEdgeS.ht 12) .no=some (c_lszEdgeS.wc E_lszEdgeS,[4]):=by kernel_rfl
theorem ok_lszEdgeS:p_lszEdgeS.Ok PG 78:=mkOk (env_nil PG) k_lszEdgeS (by kernel_rfl)
theorem e_lszEdgeS (n) (a0) (a1):f_lszEdgeS n (a0,a1) =
 bif decide ((IntKind.wrap .i64 (a1-(a0.length:Int)))<(0:Int)) then
 some ((-1:Int),())
 else some (IntKind.wrap .i64 (a1-(a0.length:Int)),()):=by kernel_rfl
def c_lszIntS:TC:=
 (.seq (.rg [o1 4 (kL 0)])
 (.seq (.rg [oc 5 1,
 oc 6 0,
 o1 7 (.len 6),
 o1 8 (.data (.bin .sub) [.t 5,.t 7]),
 oc 1 8])
 (.seq (.seq (.rg [oc 9 1,
 o1 10 (.data (.bin .lss) [.t 9,kD 0])])
 (.cond (.t 10)
 (.seq (.rg [o1 4 (kL (-1))])
 .ret)
 .skip))
 (.seq (.rg [oc 11 1,
 oc 4 11])
 .ret))))
def s_lszIntS:Sig:=⟨[.rd false Ct9,.rd false [.d]],(.one false [.d])⟩
def E_lszIntS:TEnv:=envOf []
def f_lszIntS (n:Nat):List (Int) × Int->Option ((Int) × Unit):=runFn n E_lszIntS c_lszIntS [[.sl [.i .i64]],[.i .i64]] [.i .i64] [] [4] .no
def g_lszIntS:=f_lszIntS BIG
def p_lszIntS:TSp:=⟨s_lszIntS,[[.sl [.i .i64]],[.i .i64]],[.i .i64],[],Ou.j .no,g_lszIntS⟩
theorem k_lszIntS:chkW PG E_lszIntS 79 s_lszIntS (c_lszIntS.ht 12) .no=some (c_lszIntS.wc E_lszIntS,[4]):=by kernel_rfl
theorem ok_lszIntS:p_lszIntS.Ok PG 79:=mkOk (env_nil PG) k_lszIntS (by kernel_rfl)
theorem e_lszIntS (n) (a0) (a1):f_lszIntS n (a0,a1) =
 bif decide ((IntKind.wrap .i64 (a1-(a0.length:Int)))<(0:Int)) then
 some ((-1:Int),())
 else some (IntKind.wrap .i64 (a1-(a0.length:Int)),()):=by kernel_rfl
def c_lszAnswer:TC:=
 (.seq (.rg [o1 2 (.a (.t 0)),
 o1 4 (kL 0)])
 (.seq (.rg [oi 5,
 o1 6 (.load 2 [] 2 (.t 5) 1 false),
 oc 7 1,
 o3 8 78 [.t 6,.t 7],
 oc 1 8])
 (.seq (.seq (.rg [oc 9 1,
 o1 10 (.data (.bin .lss) [.t 9,kD 0])])
 (.cond (.t 10)
 (.seq (.rg [o1 4 (kL (-1))])
 .ret)
 .skip))
 (.seq (.rg [oi 11,
 o1 12 (.load 2 [] 3 (.t 11) 1 false),
 oc 13 1,
 o3 14 79 [.t 12,.t 13],
 oc 1 14])
 (.seq (.seq (.rg [oc 15 1,
 o1 16 (.data (.bin .lss) [.t 15,kD 0])])
 (.cond (.t 16)
 (.seq (.rg [o1 4 (kL (-1))])
 .ret)
 .skip))
 (.seq (.rg [oc 17 1,
 oc 4 17])
 .ret))))))
def s_lszAnswer:Sig:=⟨[.rd true Ct4,.rd false [.d]],(.one false [.d])⟩
def E_lszAnswer:TEnv:=envOf [(78,p_lszEdgeS),(79,p_lszIntS)]
def f_lszAnswer (n:Nat):(Int × Bool × List (Int × Int) × List (Int)) × Int->Option ((Int) × Unit):=runFn n E_lszAnswer c_lszAnswer [Ty9,[.i .i64]] [.i .i64] [] [4] .no
def g_lszAnswer:=f_lszAnswer BIG
def p_lszAnswer:TSp:=⟨s_lszAnswer,[Ty9,[.i .i64]],[.i .i64],[],Ou.j .no,g_lszAnswer⟩
theorem k_lszAnswer:chkW PG E_lszAnswer 42 s_lszAnswer (c_lszAnswer.ht 18) .no=some (c_lszAnswer.wc E_lszAnswer,[4]):=by kernel_rfl
theorem ok_lszAnswer:p_lszAnswer.Ok PG 42:=mkOk (env_cons ok_lszEdgeS (env_cons ok_lszIntS (env_nil PG))) k_lszAnswer (by kernel_rfl)
theorem e_lszAnswer (n) (a0) (a1):f_lszAnswer n (a0,a1) =
 Option.bind (g_lszEdgeS (a0.2.2.1,a1)) fun r0=>
 bif decide (r0.1<(0:Int)) then
 some ((-1:Int),())
 else Option.bind (g_lszIntS (a0.2.2.2,r0.1)) fun r1=>
 bif decide (r1.1<(0:Int)) then
 some ((-1:Int),())
 else some (r1.1,()):=by kernel_rfl
def c_lszOrder:TC:=
 (.seq (.rg [o1 2 (.a (.t 0)),
 o1 4 (kL 0)])
 (.seq (.rg [oi 5,
 o1 6 (.load 2 [] 2 (.t 5) 1 false),
 oc 7 1,
 o3 8 78 [.t 6,.t 7],
 oc 1 8])
 (.seq (.seq (.rg [oc 9 1,
 o1 10 (.data (.bin .lss) [.t 9,kD 0])])
 (.cond (.t 10)
 (.seq (.rg [o1 4 (kL (-1))])
 .ret)
 .skip))
 (.seq (.rg [oc 11 1,
 oc 4 11])
 .ret))))
def s_lszOrder:Sig:=⟨[.rd true Ct7,.rd false [.d]],(.one false [.d])⟩
def E_lszOrder:TEnv:=envOf [(78,p_lszEdgeS)]
def f_lszOrder (n:Nat):(Int × Int × List (Int × Int) × Int) × Int->Option ((Int) × Unit):=runFn n E_lszOrder c_lszOrder [Ty10,[.i .i64]] [.i .i64] [] [4] .no
def g_lszOrder:=f_lszOrder BIG
def p_lszOrder:TSp:=⟨s_lszOrder,[Ty10,[.i .i64]],[.i .i64],[],Ou.j .no,g_lszOrder⟩
theorem k_lszOrder:chkW PG E_lszOrder 43 s_lszOrder (c_lszOrder.ht 12) .no=some (c_lszOrder.wc E_lszOrder,[4]):=by kernel_rfl
theorem ok_lszOrder:p_lszOrder.Ok PG 43:=mkOk (env_cons ok_lszEdgeS (env_nil PG)) k_lszOrder (by kernel_rfl)
theorem e_lszOrder (n) (a0) (a1):f_lszOrder n (a0,a1) =
 Option.bind (g_lszEdgeS (a0.2.2.1,a1)) fun r0=>
 bif decide (r0.1<(0:Int)) then
 some ((-1:Int),())
 else some (r0.1,()):=by kernel_rfl
def c_lszRec:TC:=
 (.seq (.rg [o1 2 (.a (.t 0)),
 o1 4 (kL 0)])
 (.seq (.rg [oi 5,
 o1 6 (.load 2 [] 6 (.t 5) 4 false),
 oc 7 1,
 o3 8 42 [.t 6,.t 7],
 oc 1 8])
 (.seq (.seq (.rg [oc 9 1,
 o1 10 (.data (.bin .lss) [.t 9,kD 0])])
 (.cond (.t 10)
 (.seq (.rg [o1 4 (kL (-1))])
 .ret)
 .skip))
 (.seq (.rg [oi 11,
 o1 12 (.load 2 [] 10 (.t 11) 4 false),
 oc 13 1,
 o3 14 43 [.t 12,.t 13],
 oc 1 14])
 (.seq (.seq (.rg [oc 15 1,
 o1 16 (.data (.bin .lss) [.t 15,kD 0])])
 (.cond (.t 16)
 (.seq (.rg [o1 4 (kL (-1))])
 .ret)
 .skip))
 (.seq (.rg [oc 17 1,
 oc 4 17])
 .ret))))))
def s_lszRec:Sig:=⟨[.rd true Ct3,.rd false [.d]],(.one false [.d])⟩
def E_lszRec:TEnv:=envOf [(42,p_lszAnswer),(43,p_lszOrder)]
def f_lszRec (n:Nat):(Int × Int × Int × Int × Int × Int × Int × Bool × List (Int × Int) × List (Int) × Int × Int × List (Int × Int) × Int) × Int->Option ((Int) × Unit):=runFn n E_lszRec c_lszRec [Ty4,[.i .i64]] [.i .i64] [] [4] .no
def g_lszRec:=f_lszRec BIG
def p_lszRec:TSp:=⟨s_lszRec,[Ty4,[.i .i64]],[.i .i64],[],Ou.j .no,g_lszRec⟩
theorem k_lszRec:chkW PG E_lszRec 19 s_lszRec (c_lszRec.ht 18) .no=some (c_lszRec.wc E_lszRec,[4]):=by kernel_rfl
theorem ok_lszRec:p_lszRec.Ok PG 19:=mkOk (env_cons ok_lszAnswer (env_cons ok_lszOrder (env_nil PG))) k_lszRec (by kernel_rfl)
theorem e_lszRec (n) (a0) (a1):f_lszRec n (a0,a1) =
 Option.bind (g_lszAnswer ((a0.2.2.2.2.2.2.1,a0.2.2.2.2.2.2.2.1,a0.2.2.2.2.2.2.2.2.1,a0.2.2.2.2.2.2.2.2.2.1),a1)) fun r0=>
 bif decide (r0.1<(0:Int)) then
 some ((-1:Int),())
 else Option.bind (g_lszOrder (a0.2.2.2.2.2.2.2.2.2.2,r0.1)) fun r1=>
 bif decide (r1.1<(0:Int)) then
 some ((-1:Int),())
 else some (r1.1,()):=by kernel_rfl
def c_lszRecS:TC:=
 (.seq (.rg [o1 4 (kL 0)])
 (.seq (.rg [oc 6 1,
 oc 7 0,
 o1 8 (.len 7),
 o1 9 (.data (.bin .sub) [.t 6,.t 8]),
 oc 1 9])
 (.seq (.seq (.rg [oc 10 1,
 o1 11 (.data (.bin .lss) [.t 10,kD 0])])
 (.cond (.t 11)
 (.seq (.rg [o1 4 (kL (-1))])
 .ret)
 .skip))
 (.seq (.join [⟨1,[.i .i64],false⟩] 67104818 (some [⟨4,[.i .i64],false⟩]) (.seq (.rg [o1 5 (kL 0)])
 (.block 0 (.loop [⟨1,[.i .i64],false⟩,⟨5,[.i .i64],false⟩] 67104818
 (.seq (.seq (.rg [oc 12 5,
 oc 13 0,
 o1 14 (.len 13),
 o1 15 (.data (.bin .lss) [.t 12,.t 14])])
 (.cond (.t 15)
 .skip
 (.exit 0)))
 (.seq (.block 1 (.seq (.rg [oc 18 0,
 oc 19 5,
 o1 20 (.index 18 (.t 19)),
 o1 21 (.load 18 [(0,14)] 0 (.t 20) 14 false),
 oc 22 1,
 o3 23 19 [.t 21,.t 22],
 oc 1 23])
 (.seq (.rg [oc 24 1,
 o1 25 (.data (.bin .lss) [.t 24,kD 0])])
 (.cond (.t 25)
 (.seq (.rg [o1 4 (kL (-1))])
 .ret)
 .skip))))
 (.rg [oc 16 5,
 o1 17 (.data (.bin .add) [.t 16,kD 1]),
 oc 5 17])))))))
 (.seq (.rg [oc 26 1,
 oc 4 26])
 .ret)))))
def s_lszRecS:Sig:=⟨[.rd false Ct2,.rd false [.d]],(.one false [.d])⟩
def E_lszRecS:TEnv:=envOf [(19,p_lszRec)]
def f_lszRecS (n:Nat):(List (Int × Int × Int × Int × Int × Int × Int × Bool × List (Int × Int) × List (Int) × Int × Int × List (Int × Int) × Int)) × Int->Option ((Int) × Unit):=runFn n E_lszRecS c_lszRecS [Ty3,[.i .i64]] [.i .i64] [] [4] .no
def g_lszRecS:=f_lszRecS BIG
def p_lszRecS:TSp:=⟨s_lszRecS,[Ty3,[.i .i64]],[.i .i64],[],Ou.j .no,g_lszRecS⟩
theorem k_lszRecS:chkW PG E_lszRecS 5 s_lszRecS (c_lszRecS.ht 27) .no=some (c_lszRecS.wc E_lszRecS,[4]):=by kernel_rfl
theorem ok_lszRecS:p_lszRecS.Ok PG 5:=mkOk (env_cons ok_lszRec (env_nil PG)) k_lszRecS (by kernel_rfl)
theorem e_lszRecS (n) (a0) (a1):f_lszRecS n (a0,a1) =
 bif decide ((IntKind.wrap .i64 (a1-(a0.length:Int)))<(0:Int)) then
  some ((-1:Int),())
 else Option.bind (loopT n (X:=Int × Int) (B:=(Int) ⊕ (Int)) (fun self1 x0=>
  bif decide (x0.2<(a0.length:Int)) then
   bnd a0.length x0.2 fun n2=>
   Option.bind a0[n2]? fun y3=>
   Option.bind (g_lszRec (y3,x0.1)) fun r4=>
   bif decide (r4.1<(0:Int)) then
    some (Sum.inr (-1:Int))
   else self1 (r4.1,IntKind.wrap .i64 (x0.2+(1:Int)))
  else some (Sum.inl x0.1)) (IntKind.wrap .i64 (a1-(a0.length:Int)),(0:Int)):Option ((Int) ⊕ (Int))) fun y=>match y with
 | .inl x5=>
  some (x5,())
 | .inr x5=>
  some (x5,()):=by kernel_rfl
def c_ltoAsk:TC:=
 (.seq (.rg [o1 1 (.a (.t 0)),
 o5 (.a (.c Ty11 [kV 0,kV 0,kV 0,kV 0])) 2 1000000001])
 (.seq (.rg [o5 (.a (.c Ty11 [kV 0,kV 0,kV 0,kV 0])) 3 1000000001])
 (.seq (.rg [oi 4,
 o1 5 (.load 1 [] 0 (.t 4) 1 false),
 oi 6,
 o4 1 [3] (.store 3 [] 0 (.t 6) (.t 5))])
 (.seq (.rg [oi 7,
 o1 8 (.load 1 [] 1 (.t 7) 1 false),
 oi 9,
 o4 1 [3] (.store 3 [] 1 (.t 9) (.t 8))])
 (.seq (.rg [oi 10,
 o1 11 (.load 1 [] 2 (.t 10) 1 false),
 oi 12,
 o4 1 [3] (.store 3 [] 2 (.t 12) (.t 11))])
 (.seq (.rg [oi 13,
 o1 14 (.load 1 [] 3 (.t 13) 1 false),
 oi 15,
 o4 1 [3] (.store 3 [] 3 (.t 15) (.t 14))])
 (.seq (.rg [o1 16 (.load 3 [] 0 .nil 4 false),
 o4 1 [2] (.store 2 [] 0 .nil (.t 16))])
 .ret)))))))
def s_ltoAsk:Sig:=⟨[.rd true [.d,.d,.d,.d]],(.one true [.d,.d,.d,.d])⟩
def E_ltoAsk:TEnv:=envOf []
def f_ltoAsk (n:Nat):(Int × Int × Int × Int)->Option ((Int × Int × Int × Int) × Unit):=runFn n E_ltoAsk c_ltoAsk [Ty11] Ty11 [] [2] .no
def g_ltoAsk:=f_ltoAsk BIG
def p_ltoAsk:TSp:=⟨s_ltoAsk,[Ty11],Ty11,[],Ou.j .no,g_ltoAsk⟩
theorem k_ltoAsk:chkW PG E_ltoAsk 44 s_ltoAsk (c_ltoAsk.ht 17) .no=some (c_ltoAsk.wc E_ltoAsk,[2]):=by kernel_rfl
theorem ok_ltoAsk:p_ltoAsk.Ok PG 44:=mkOk (env_nil PG) k_ltoAsk (by kernel_rfl)
theorem e_ltoAsk (n) (a0):f_ltoAsk n a0 =
 some (a0,()):=by kernel_rfl
def c_ltoEdge:TC:=
 (.seq (.rg [o1 1 (.a (.t 0)),
 o5 (.a (.c [.i .i64,.i .i64] [kV 0,kV 0])) 2 1000000001])
 (.seq (.rg [o5 (.a (.c [.i .i64,.i .i64] [kV 0,kV 0])) 3 1000000001])
 (.seq (.rg [oi 4,
 o1 5 (.load 1 [] 0 (.t 4) 1 false),
 oi 6,
 o4 1 [3] (.store 3 [] 0 (.t 6) (.t 5))])
 (.seq (.rg [oi 7,
 o1 8 (.load 1 [] 1 (.t 7) 1 false),
 oi 9,
 o4 1 [3] (.store 3 [] 1 (.t 9) (.t 8))])
 (.seq (.rg [o1 10 (.load 3 [] 0 .nil 2 false),
 o4 1 [2] (.store 2 [] 0 .nil (.t 10))])
 .ret)))))
def s_ltoEdge:Sig:=⟨[.rd true [.d,.d]],(.one true [.d,.d])⟩
def E_ltoEdge:TEnv:=envOf []
def f_ltoEdge (n:Nat):(Int × Int)->Option ((Int × Int) × Unit):=runFn n E_ltoEdge c_ltoEdge [[.i .i64,.i .i64]] [.i .i64,.i .i64] [] [2] .no
def g_ltoEdge:=f_ltoEdge BIG
def p_ltoEdge:TSp:=⟨s_ltoEdge,[[.i .i64,.i .i64]],[.i .i64,.i .i64],[],Ou.j .no,g_ltoEdge⟩
theorem k_ltoEdge:chkW PG E_ltoEdge 106 s_ltoEdge (c_ltoEdge.ht 11) .no=some (c_ltoEdge.wc E_ltoEdge,[2]):=by kernel_rfl
theorem ok_ltoEdge:p_ltoEdge.Ok PG 106:=mkOk (env_nil PG) k_ltoEdge (by kernel_rfl)
theorem e_ltoEdge (n) (a0):f_ltoEdge n a0 =
 some (a0,()):=by kernel_rfl
def c_ltoEdgeS:TC:=
 (.seq (.rg [o1 2 (.lit [.sl [.i .i64,.i .i64]] [.slice none 0 0])])
 (.seq (.rg [oc 5 0,
 o1 6 (.len 5),
 o1 7 (.make (.t 6) [.i .i64,.i .i64]),
 o5 (.copy 7) 3 7])
 (.seq (.join [⟨3,[.sl [.i .i64,.i .i64]],false⟩] 4194072 none (.seq (.rg [o1 4 (kL 0)])
 (.block 0 (.loop [⟨3,[.sl [.i .i64,.i .i64]],false⟩,⟨4,[.i .i64],false⟩] 4194072
 (.seq (.seq (.rg [oc 8 4,
 oc 9 0,
 o1 10 (.len 9),
 o1 11 (.data (.bin .lss) [.t 8,.t 10])])
 (.cond (.t 11)
 .skip
 (.exit 0)))
 (.seq (.block 1 (.rg [o6 14 3,
 oc 15 4,
 oc 16 0,
 oc 17 4,
 o1 18 (.index 16 (.t 17)),
 o1 19 (.load 16 [(0,2)] 0 (.t 18) 2 false),
 o3 20 106 [.t 19],
 o1 21 (.index 14 (.t 15)),
 o4 1 [3,14] (.store 3 [(0,2)] 0 (.t 21) (.t 20))]))
 (.rg [oc 12 4,
 o1 13 (.data (.bin .add) [.t 12,kD 1]),
 oc 4 13])))))))
 (.seq (.rg [o5 (.copy 3) 22 3,
 o5 (.copy 22) 2 22])
 .ret))))
def s_ltoEdgeS:Sig:=⟨[.rd false Ct8],(.one false Ct8)⟩
def E_ltoEdgeS:TEnv:=envOf [(106,p_ltoEdge)]
def f_ltoEdgeS (n:Nat):(List (Int × Int))->Option ((List (Int × Int)) × Unit):=runFn n E_ltoEdgeS c_ltoEdgeS [[.sl [.i .i64,.i .i64]]] [.sl [.i .i64,.i .i64]] [] [2] .no
def g_ltoEdgeS:=f_ltoEdgeS BIG
def p_ltoEdgeS:TSp:=⟨s_ltoEdgeS,[[.sl [.i .i64,.i .i64]]],[.sl [.i .i64,.i .i64]],[],Ou.j .no,g_ltoEdgeS⟩
theorem k_ltoEdgeS:chkW PG E_ltoEdgeS 80 s_ltoEdgeS (c_ltoEdgeS.ht 23) .no=some (c_ltoEdgeS.wc E_ltoEdgeS,[2]):=by kernel_rfl
theorem ok_ltoEdgeS:p_ltoEdgeS.Ok PG 80:=mkOk (env_cons ok_ltoEdge (env_nil PG)) k_ltoEdgeS (by kernel_rfl)
theorem e_ltoEdgeS (n) (a0):f_ltoEdgeS n a0 =
 bif decide (0<=(a0.length:Int)) then
 bif decide ((Int.toNat (a0.length:Int))<=4294967296) then
 Option.bind (loopT n (X:=(List (Int × Int)) × Int) (B:=(List (Int × Int))) (fun self1 x0=>
 bif decide (x0.2<(a0.length:Int)) then
 bnd a0.length x0.2 fun n2=>
 Option.bind a0[n2]? fun y3=>
 Option.bind (g_ltoEdge y3) fun r4=>
 bnd x0.1.length x0.2 fun n5=>
 Option.bind x0.1[n5]? fun y6=>
 self1 (x0.1.set n5 r4.1,IntKind.wrap .i64 (x0.2+(1:Int)))
 else some x0.1) (List.replicate (Int.toNat (a0.length:Int)) ((0:Int),(0:Int)),(0:Int)):Option ((List (Int × Int)))) fun x7=>
 some (x7,())
 else none
 else none:=by kernel_rfl
def c_ltoIntS:TC:=
 (.seq (.rg [o1 2 (.lit [.sl [.i .i64]] [.slice none 0 0])])
 (.seq (.rg [oc 5 0,
 o1 6 (.len 5),
 o1 7 (.make (.t 6) [.i .i64]),
 o5 (.copy 7) 3 7])
 (.seq (.join [⟨3,[.sl [.i .i64]],false⟩] 2096920 none (.seq (.rg [o1 4 (kL 0)])
 (.block 0 (.loop [⟨3,[.sl [.i .i64]],false⟩,⟨4,[.i .i64],false⟩] 2096920
 (.seq (.seq (.rg [oc 8 4,
 oc 9 0,
 o1 10 (.len 9),
 o1 11 (.data (.bin .lss) [.t 8,.t 10])])
 (.cond (.t 11)
 .skip
 (.exit 0)))
 (.seq (.block 1 (.rg [o6 14 3,
 oc 15 4,
 oc 16 0,
 oc 17 4,
 o1 18 (.index 16 (.t 17)),
 o1 19 (.load 16 [(0,1)] 0 (.t 18) 1 false),
 o1 20 (.index 14 (.t 15)),
 o4 1 [3,14] (.store 3 [(0,1)] 0 (.t 20) (.t 19))]))
 (.rg [oc 12 4,
 o1 13 (.data (.bin .add) [.t 12,kD 1]),
 oc 4 13])))))))
 (.seq (.rg [o5 (.copy 3) 21 3,
 o5 (.copy 21) 2 21])
 .ret))))
def s_ltoIntS:Sig:=⟨[.rd false Ct9],(.one false Ct9)⟩
def E_ltoIntS:TEnv:=envOf []
def f_ltoIntS (n:Nat):List (Int)->Option ((List (Int)) × Unit):=runFn n E_ltoIntS c_ltoIntS [[.sl [.i .i64]]] [.sl [.i .i64]] [] [2] .no
def g_ltoIntS:=f_ltoIntS BIG
def p_ltoIntS:TSp:=⟨s_ltoIntS,[[.sl [.i .i64]]],[.sl [.i .i64]],[],Ou.j .no,g_ltoIntS⟩
theorem k_ltoIntS:chkW PG E_ltoIntS 81 s_ltoIntS (c_ltoIntS.ht 22) .no=some (c_ltoIntS.wc E_ltoIntS,[2]):=by kernel_rfl
theorem ok_ltoIntS:p_ltoIntS.Ok PG 81:=mkOk (env_nil PG) k_ltoIntS (by kernel_rfl)
theorem e_ltoIntS (n) (a0):f_ltoIntS n a0 =
 bif decide (0<=(a0.length:Int)) then
 bif decide ((Int.toNat (a0.length:Int))<=4294967296) then
 Option.bind (loopT n (X:=(List (Int)) × Int) (B:=(List (Int))) (fun self1 x0=>
 bif decide (x0.2<(a0.length:Int)) then
 bnd a0.length x0.2 fun n2=>
 Option.bind a0[n2]? fun y3=>
 bnd x0.1.length x0.2 fun n4=>
 Option.bind x0.1[n4]? fun y5=>
 self1 (x0.1.set n4 y3,IntKind.wrap .i64 (x0.2+(1:Int)))
 else some x0.1) (List.replicate (Int.toNat (a0.length:Int)) (0:Int),(0:Int)):Option ((List (Int)))) fun x6=>
 some (x6,())
 else none
 else none:=by kernel_rfl
def c_ltoAnswer:TC:=
 (.seq (.rg [o1 1 (.a (.t 0)),
 o5 (.a (.c Ty9 [kV 0,.bool false,.slice none 0 0,.slice none 0 0])) 2 1000000001])
 (.seq (.rg [o5 (.a (.c Ty9 [kV 0,.bool false,.slice none 0 0,.slice none 0 0])) 3 1000000001])
 (.seq (.rg [oi 4,
 o1 5 (.load 1 [] 0 (.t 4) 1 false),
 oi 6,
 o4 1 [3] (.store 3 [] 0 (.t 6) (.t 5))])
 (.seq (.rg [oi 7,
 o1 8 (.load 1 [] 1 (.t 7) 1 false),
 oi 9,
 o4 1 [3] (.store 3 [] 1 (.t 9) (.t 8))])
 (.seq (.rg [oi 10,
 o1 11 (.load 1 [] 2 (.t 10) 1 false),
 o3 12 80 [.t 11],
 oi 13,
 o4 2 [3,12] (.store 3 [] 2 (.t 13) (.t 12))])
 (.seq (.rg [oi 14,
 o1 15 (.load 1 [] 3 (.t 14) 1 false),
 o3 16 81 [.t 15],
 oi 17,
 o4 2 [3,16] (.store 3 [] 3 (.t 17) (.t 16))])
 (.seq (.rg [o1 18 (.load 3 [] 0 .nil 4 true),
 ⟨false,[18],[],.det 2 (.store 2 [] 0 .nil (.t 18)),[2,18,18,3],none,none⟩])
 .ret)))))))
def s_ltoAnswer:Sig:=⟨[.rd true Ct4],(.one true Ct4)⟩
def E_ltoAnswer:TEnv:=envOf [(80,p_ltoEdgeS),(81,p_ltoIntS)]
def f_ltoAnswer (n:Nat):(Int × Bool × List (Int × Int) × List (Int))->Option ((Int × Bool × List (Int × Int) × List (Int)) × Unit):=runFn n E_ltoAnswer c_ltoAnswer [Ty9] Ty9 [] [2] .no
def g_ltoAnswer:=f_ltoAnswer BIG
def p_ltoAnswer:TSp:=⟨s_ltoAnswer,[Ty9],Ty9,[],Ou.j .no,g_ltoAnswer⟩
theorem k_ltoAnswer:chkW PG E_ltoAnswer 45 s_ltoAnswer (c_ltoAnswer.ht 19) .no=some (c_ltoAnswer.wc E_ltoAnswer,[2]):=by kernel_rfl
theorem ok_ltoAnswer:p_ltoAnswer.Ok PG 45:=mkOk (env_cons ok_ltoEdgeS (env_cons ok_ltoIntS (env_nil PG))) k_ltoAnswer (by kernel_rfl)
theorem e_ltoAnswer (n) (a0):f_ltoAnswer n a0 =
 Option.bind (g_ltoEdgeS a0.2.2.1) fun r0=>
 Option.bind (g_ltoIntS a0.2.2.2) fun r1=>
 some ((a0.1,a0.2.1,r0.1,r1.1),()):=by kernel_rfl
def c_ltoOrder:TC:=
 (.seq (.rg [o1 1 (.a (.t 0)),
 o5 (.a (.c Ty10 [kV 0,kV 0,.slice none 0 0,kV 0])) 2 1000000001])
 (.seq (.rg [o5 (.a (.c Ty10 [kV 0,kV 0,.slice none 0 0,kV 0])) 3 1000000001])
 (.seq (.rg [oi 4,
 o1 5 (.load 1 [] 0 (.t 4) 1 false),
 oi 6,
 o4 1 [3] (.store 3 [] 0 (.t 6) (.t 5))])
 (.seq (.rg [oi 7,
 o1 8 (.load 1 [] 1 (.t 7) 1 false),
 oi 9,
 o4 1 [3] (.store 3 [] 1 (.t 9) (.t 8))])
 (.seq (.rg [oi 10,
 o1 11 (.load 1 [] 2 (.t 10) 1 false),
 o3 12 80 [.t 11],
 oi 13,
 o4 2 [3,12] (.store 3 [] 2 (.t 13) (.t 12))])
 (.seq (.rg [oi 14,
 o1 15 (.load 1 [] 3 (.t 14) 1 false),
 oi 16,
 o4 1 [3] (.store 3 [] 3 (.t 16) (.t 15))])
 (.seq (.rg [o1 17 (.load 3 [] 0 .nil 4 true),
 ⟨false,[17],[],.det 2 (.store 2 [] 0 .nil (.t 17)),[2,17,17,3],none,none⟩])
 .ret)))))))
def s_ltoOrder:Sig:=⟨[.rd true Ct7],(.one true Ct7)⟩
def E_ltoOrder:TEnv:=envOf [(80,p_ltoEdgeS)]
def f_ltoOrder (n:Nat):(Int × Int × List (Int × Int) × Int)->Option ((Int × Int × List (Int × Int) × Int) × Unit):=runFn n E_ltoOrder c_ltoOrder [Ty10] Ty10 [] [2] .no
def g_ltoOrder:=f_ltoOrder BIG
def p_ltoOrder:TSp:=⟨s_ltoOrder,[Ty10],Ty10,[],Ou.j .no,g_ltoOrder⟩
theorem k_ltoOrder:chkW PG E_ltoOrder 46 s_ltoOrder (c_ltoOrder.ht 18) .no=some (c_ltoOrder.wc E_ltoOrder,[2]):=by kernel_rfl
theorem ok_ltoOrder:p_ltoOrder.Ok PG 46:=mkOk (env_cons ok_ltoEdgeS (env_nil PG)) k_ltoOrder (by kernel_rfl)
theorem e_ltoOrder (n) (a0):f_ltoOrder n a0 =
 Option.bind (g_ltoEdgeS a0.2.2.1) fun r0=>
 some ((a0.1,a0.2.1,r0.1,a0.2.2.2),()):=by kernel_rfl
def c_ltoRec:TC:=
 (.seq (.rg [o1 1 (.a (.t 0)),
 o5 (.a (.c Ty4 [kV 0,kV 0,kV 0,kV 0,kV 0,kV 0,kV 0,.bool false,.slice none 0 0,.slice none 0 0,kV 0,kV 0,.slice none 0 0,kV 0])) 2 1000000001])
 (.seq (.rg [o5 (.a (.c Ty4 [kV 0,kV 0,kV 0,kV 0,kV 0,kV 0,kV 0,.bool false,.slice none 0 0,.slice none 0 0,kV 0,kV 0,.slice none 0 0,kV 0])) 3 1000000001])
 (.seq (.rg [oi 4,
 o1 5 (.load 1 [] 0 (.t 4) 1 false),
 oi 6,
 o4 1 [3] (.store 3 [] 0 (.t 6) (.t 5))])
 (.seq (.rg [oi 7,
 o1 8 (.load 1 [] 1 (.t 7) 4 false),
 o3 9 44 [.t 8],
 oi 10,
 o4 1 [3] (.store 3 [] 1 (.t 10) (.t 9))])
 (.seq (.rg [oi 11,
 o1 12 (.load 1 [] 5 (.t 11) 1 false),
 oi 13,
 o4 1 [3] (.store 3 [] 5 (.t 13) (.t 12))])
 (.seq (.rg [oi 14,
 o1 15 (.load 1 [] 6 (.t 14) 4 false),
 o3 16 45 [.t 15],
 oi 17,
 o4 2 [3,16] (.store 3 [] 6 (.t 17) (.t 16))])
 (.seq (.rg [oi 18,
 o1 19 (.load 1 [] 10 (.t 18) 4 false),
 o3 20 46 [.t 19],
 oi 21,
 o4 2 [3,20] (.store 3 [] 10 (.t 21) (.t 20))])
 (.seq (.rg [o1 22 (.load 3 [] 0 .nil 14 true),
 ⟨false,[22],[],.det 2 (.store 2 [] 0 .nil (.t 22)),[2,22,22,3],none,none⟩])
 .ret))))))))
def s_ltoRec:Sig:=⟨[.rd true Ct3],(.one true Ct3)⟩
def E_ltoRec:TEnv:=envOf [(44,p_ltoAsk),(45,p_ltoAnswer),(46,p_ltoOrder)]
def f_ltoRec (n:Nat):(Int × Int × Int × Int × Int × Int × Int × Bool × List (Int × Int) × List (Int) × Int × Int × List (Int × Int) × Int)->Option ((Int × Int × Int × Int × Int × Int × Int × Bool × List (Int × Int) × List (Int) × Int × Int × List (Int × Int) × Int) × Unit):=runFn n E_ltoRec c_ltoRec [Ty4] Ty4 [] [2] .no
def g_ltoRec:=f_ltoRec BIG
def p_ltoRec:TSp:=⟨s_ltoRec,[Ty4],Ty4,[],Ou.j .no,g_ltoRec⟩
theorem k_ltoRec:chkW PG E_ltoRec 20 s_ltoRec (c_ltoRec.ht 23) .no=some (c_ltoRec.wc E_ltoRec,[2]):=by kernel_rfl
theorem ok_ltoRec:p_ltoRec.Ok PG 20:=mkOk (env_cons ok_ltoAsk (env_cons ok_ltoAnswer (env_cons ok_ltoOrder (env_nil PG)))) k_ltoRec (by kernel_rfl)
theorem e_ltoRec (n) (a0):f_ltoRec n a0 =
 Option.bind (g_ltoAsk (a0.2.1,a0.2.2.1,a0.2.2.2.1,a0.2.2.2.2.1)) fun r0=>
 Option.bind (g_ltoAnswer (a0.2.2.2.2.2.2.1,a0.2.2.2.2.2.2.2.1,a0.2.2.2.2.2.2.2.2.1,a0.2.2.2.2.2.2.2.2.2.1)) fun r1=>
 Option.bind (g_ltoOrder a0.2.2.2.2.2.2.2.2.2.2) fun r2=>
 some ((a0.1,r0.1.1,r0.1.2.1,r0.1.2.2.1,r0.1.2.2.2,a0.2.2.2.2.2.1,r1.1.1,r1.1.2.1,r1.1.2.2.1,r1.1.2.2.2,r2.1),()):=by kernel_rfl
def c_ltoRecS:TC:=
 (.seq (.rg [o1 2 (.lit Ty3 [.slice none 0 0])])
 (.seq (.rg [oc 5 0,
 o1 6 (.len 5),
 o1 7 (.make (.t 6) Ty4),
 o5 (.copy 7) 3 7])
 (.seq (.join [⟨3,Ty3,false⟩] 4194072 none (.seq (.rg [o1 4 (kL 0)])
 (.block 0 (.loop [⟨3,Ty3,false⟩,⟨4,[.i .i64],false⟩] 4194072
 (.seq (.seq (.rg [oc 8 4,
 oc 9 0,
 o1 10 (.len 9),
 o1 11 (.data (.bin .lss) [.t 8,.t 10])])
 (.cond (.t 11)
 .skip
 (.exit 0)))
 (.seq (.block 1 (.rg [o6 14 3,
 oc 15 4,
 oc 16 0,
 oc 17 4,
 o1 18 (.index 16 (.t 17)),
 o1 19 (.load 16 [(0,14)] 0 (.t 18) 14 false),
 o3 20 20 [.t 19],
 o1 21 (.index 14 (.t 15)),
 o4 2 [3,20,21,14] (.store 3 [(0,14)] 0 (.t 21) (.t 20))]))
 (.rg [oc 12 4,
 o1 13 (.data (.bin .add) [.t 12,kD 1]),
 oc 4 13])))))))
 (.seq (.rg [o5 (.copy 3) 22 3,
 o5 (.copy 22) 2 22])
 .ret))))
def s_ltoRecS:Sig:=⟨[.rd false Ct2],(.one false Ct2)⟩
def E_ltoRecS:TEnv:=envOf [(20,p_ltoRec)]
def f_ltoRecS (n:Nat):(List (Int × Int × Int × Int × Int × Int × Int × Bool × List (Int × Int) × List (Int) × Int × Int × List (Int × Int) × Int))->Option ((List (Int × Int × Int × Int × Int × Int × Int × Bool × List (Int × Int) × List (Int) × Int × Int × List (Int × Int) × Int)) × Unit):=runFn n E_ltoRecS c_ltoRecS [Ty3] Ty3 [] [2] .no
def g_ltoRecS:=f_ltoRecS BIG
def p_ltoRecS:TSp:=⟨s_ltoRecS,[Ty3],Ty3,[],Ou.j .no,g_ltoRecS⟩
theorem k_ltoRecS:chkW PG E_ltoRecS 7 s_ltoRecS (c_ltoRecS.ht 23) .no=some (c_ltoRecS.wc E_ltoRecS,[2]):=by kernel_rfl
theorem ok_ltoRecS:p_ltoRecS.Ok PG 7:=mkOk (env_cons ok_ltoRec (env_nil PG)) k_ltoRecS (by kernel_rfl)
theorem e_ltoRecS (n) (a0):f_ltoRecS n a0 =
 bif decide (0<=(a0.length:Int)) then
 bif decide ((Int.toNat (a0.length:Int))<=4294967296) then
 Option.bind (loopT n (X:=(List (Int × Int × Int × Int × Int × Int × Int × Bool × (List (Int × Int)) × (List (Int)) × Int × Int × (List (Int × Int)) × Int)) × Int) (B:=(List (Int × Int × Int × Int × Int × Int × Int × Bool × (List (Int × Int)) × (List (Int)) × Int × Int × (List (Int × Int)) × Int))) (fun self1 x0=>
 bif decide (x0.2<(a0.length:Int)) then
 bnd a0.length x0.2 fun n2=>
 Option.bind a0[n2]? fun y3=>
 Option.bind (g_ltoRec y3) fun r4=>
 bnd x0.1.length x0.2 fun n5=>
 Option.bind x0.1[n5]? fun y6=>
 self1 (x0.1.set n5 r4.1,IntKind.wrap .i64 (x0.2+(1:Int)))
 else some x0.1) (List.replicate (Int.toNat (a0.length:Int)) ((0:Int),(0:Int),(0:Int),(0:Int),(0:Int),(0:Int),(0:Int),false,[],[],(0:Int),(0:Int),[],(0:Int)),(0:Int)):Option ((List (Int × Int × Int × Int × Int × Int × Int × Bool × (List (Int × Int)) × (List (Int)) × Int × Int × (List (Int × Int)) × Int)))) fun x7=>
 some (x7,())
 else none
 else none:=by kernel_rfl
def c_sl01In:TC:=
 (.seq (.rg [o1 6 (.lit [.b] [.bool false])])
 (.seq (.join [⟨6,[.b],false⟩] 32704 none (.rg [oc 7 0,
 oc 8 1,
 o1 9 (.data (.bin .geq) [.t 7,.t 8]),
 oc 10 9,
 o2 11 (.copy 0) 3 true,
 o2 12 (.copy 2) 3 true,
 o2 13 (.data (.bin .leq) [.t 11,.t 12]) 3 true,
 o7 10 (.t 13) (.c (.bool false)) 14,
 oc 6 14]))
 .ret))
def s_sl01In:Sig:=⟨[.rd false [.d],.rd false [.d],.rd false [.d]],(.one false [.d])⟩
def E_sl01In:TEnv:=envOf []
def f_sl01In (n:Nat):Int × Int × Int->Option ((Bool) × Unit):=runFn n E_sl01In c_sl01In [[.i .i64],[.i .i64],[.i .i64]] [.b] [] [6] .no
def g_sl01In:=f_sl01In BIG
def p_sl01In:TSp:=⟨s_sl01In,[[.i .i64],[.i .i64],[.i .i64]],[.b],[],Ou.j .no,g_sl01In⟩
theorem k_sl01In:chkW PG E_sl01In 50 s_sl01In (c_sl01In.ht 15) .no=some (c_sl01In.wc E_sl01In,[6]):=by kernel_rfl
theorem ok_sl01In:p_sl01In.Ok PG 50:=mkOk (env_nil PG) k_sl01In (by kernel_rfl)
theorem e_sl01In (n) (a0) (a1) (a2):f_sl01In n (a0,a1,a2) =
 Option.bind (bif decide (a1<=a0) then
 some (decide (a0<=a2))
 else some false:Option (Bool)) fun x0=>
 some (x0,()):=by kernel_rfl
def c_sl05Labels:TC:=
 (.seq (.rg [o1 4 (.lit [.sl [.i .i64]] [.slice none 0 0])])
 (.seq (.rg [o1 11 (.sli [.i .i64] []),
 o5 (.copy 11) 5 11])
 (.seq (.join [⟨5,[.sl [.i .i64]],false⟩] 2093152 none (.seq (.rg [o1 6 (kL 0)])
 (.block 0 (.loop [⟨5,[.sl [.i .i64]],false⟩,⟨6,[.i .i64],false⟩] 2093152
 (.seq (.seq (.rg [oc 12 6,
 oc 13 0,
 o1 14 (.data (.bin .lss) [.t 12,.t 13])])
 (.cond (.t 14)
 .skip
 (.exit 0)))
 (.seq (.block 1 (.rg [o5 (.copy 5) 17 5,
 oc 18 6,
 o1 19 (.sli [.i .i64] [.t 18]),
 o5 (.app (some 17) 19) 20 17,
 o5 (.copy 20) 5 20]))
 (.rg [oc 15 6,
 o1 16 (.data (.bin .add) [.t 15,kD 1]),
 oc 6 16])))))))
 (.seq (.join [⟨5,[.sl [.i .i64]],false⟩] 1180591620717409208224 none (.seq (.rg [o1 7 (kL 0)])
 (.block 2 (.loop [⟨5,[.sl [.i .i64]],false⟩,⟨7,[.i .i64],false⟩] 1180591620717409208224
 (.seq (.seq (.rg [oc 21 7,
 oc 22 0,
 o1 23 (.data (.bin .lss) [.t 21,.t 22])])
 (.cond (.t 23)
 .skip
 (.exit 2)))
 (.seq (.join [⟨5,[.sl [.i .i64]],false⟩] 1180591620717344196384 none (.block 3 (.seq (.rg [o1 8 (kL 0)])
 (.block 4 (.loop [⟨5,[.sl [.i .i64]],false⟩,⟨8,[.i .i64],false⟩] 1180591620717344196384
 (.seq (.seq (.rg [oc 26 8,
 oc 27 1,
 o1 28 (.len 27),
 o1 29 (.data (.bin .lss) [.t 26,.t 28])])
 (.cond (.t 29)
 .skip
 (.exit 4)))
 (.seq (.join [⟨5,[.sl [.i .i64]],false⟩] 1180591620713116337696 none (.block 5 (.seq (.rg [o6 32 5,
 oc 33 1,
 oc 34 8,
 o1 35 (.index 33 (.t 34)),
 o1 36 (.idx (.t 35)),
 o1 37 (.load 33 [(0,2)] 0 (.t 36) 1 false),
 o1 38 (.index 32 (.t 37)),
 o1 39 (.load 5 [(0,1)] 0 (.t 38) 1 false),
 oc 9 39])
 (.seq (.rg [o6 40 5,
 oc 41 1,
 oc 42 8,
 o1 43 (.index 41 (.t 42)),
 o1 44 (.idx (.t 43)),
 o1 45 (.load 41 [(0,2)] 1 (.t 44) 1 false),
 o1 46 (.index 40 (.t 45)),
 o1 47 (.load 5 [(0,1)] 0 (.t 46) 1 false),
 oc 10 47])
 (.seq (.join [⟨5,[.sl [.i .i64]],false⟩] 576180381133307936 none (.seq (.rg [oc 48 9,
 oc 49 10,
 o1 50 (.data (.bin .lss) [.t 48,.t 49])])
 (.cond (.t 50)
 (.rg [o6 51 5,
 oc 52 1,
 oc 53 8,
 o1 54 (.index 52 (.t 53)),
 o1 55 (.idx (.t 54)),
 o1 56 (.load 52 [(0,2)] 1 (.t 55) 1 false),
 oc 57 9,
 o1 58 (.index 51 (.t 56)),
 o4 1 [5,32,40,51] (.store 5 [(0,1)] 0 (.t 58) (.t 57))])
 .skip)))
 (.seq (.rg [oc 59 10,
 oc 60 9,
 o1 61 (.data (.bin .lss) [.t 59,.t 60])])
 (.cond (.t 61)
 (.rg [o6 62 5,
 oc 63 1,
 oc 64 8,
 o1 65 (.index 63 (.t 64)),
 o1 66 (.idx (.t 65)),
 o1 67 (.load 63 [(0,2)] 0 (.t 66) 1 false),
 oc 68 10,
 o1 69 (.index 62 (.t 67)),
 o4 1 [5,62] (.store 5 [(0,1)] 0 (.t 69) (.t 68))])
 .skip)))))))
 (.rg [oc 30 8,
 o1 31 (.data (.bin .add) [.t 30,kD 1]),
 oc 8 31]))))))))
 (.rg [oc 24 7,
 o1 25 (.data (.bin .add) [.t 24,kD 1]),
 oc 7 25])))))))
 (.seq (.rg [o5 (.copy 5) 70 5,
 o5 (.copy 70) 4 70])
 .ret)))))
def s_sl05Labels:Sig:=⟨[.rd false [.d],.rd false Ct8],(.one false Ct9)⟩
def E_sl05Labels:TEnv:=envOf []
def f_sl05Labels (n:Nat):Int × (List (Int × Int))->Option ((List (Int)) × Unit):=runFn n E_sl05Labels c_sl05Labels [[.i .i64],[.sl [.i .i64,.i .i64]]] [.sl [.i .i64]] [] [4] .no
def g_sl05Labels:=f_sl05Labels BIG
def p_sl05Labels:TSp:=⟨s_sl05Labels,[[.i .i64],[.sl [.i .i64,.i .i64]]],[.sl [.i .i64]],[],Ou.j .no,g_sl05Labels⟩
theorem k_sl05Labels:chkW PG E_sl05Labels 51 s_sl05Labels (c_sl05Labels.ht 71) .no=some (c_sl05Labels.wc E_sl05Labels,[4]):=by kernel_rfl
theorem ok_sl05Labels:p_sl05Labels.Ok PG 51:=mkOk (env_nil PG) k_sl05Labels (by kernel_rfl)
theorem e_sl05Labels (n) (a0) (a1):f_sl05Labels n (a0,a1) =
 Option.bind (loopT n (X:=(List (Int)) × Int) (B:=(List (Int))) (fun self1 x0=>
 bif decide (x0.2<a0) then
 bif decide (x0.1.length+[x0.2].length<=4294967296) then
 self1 (x0.1++[x0.2],IntKind.wrap .i64 (x0.2+(1:Int)))
 else none
 else some x0.1) ([],(0:Int)):Option ((List (Int)))) fun x2=>
 Option.bind (loopT n (X:=(List (Int)) × Int) (B:=(List (Int))) (fun self4 x3=>
 bif decide (x3.2<a0) then
 Option.bind (loopT n (X:=(List (Int)) × Int) (B:=(List (Int))) (fun self6 x5=>
 bif decide (x5.2<(a1.length:Int)) then
 Option.bind (bnd a1.length x5.2 fun n7=>
 Option.bind a1[n7]? fun y8=>
 bnd x5.1.length y8.1 fun n9=>
 Option.bind x5.1[n9]? fun y10=>
 bnd a1.length x5.2 fun n11=>
 Option.bind a1[n11]? fun y12=>
 bnd x5.1.length y12.2 fun n13=>
 Option.bind x5.1[n13]? fun y14=>
 Option.bind (bif decide (y10<y14) then
 bnd a1.length x5.2 fun n15=>
 Option.bind a1[n15]? fun y16=>
 bnd x5.1.length y16.2 fun n17=>
 Option.bind x5.1[n17]? fun y18=>
 some (x5.1.set n17 y10)
 else some x5.1:Option ((List (Int)))) fun x19=>
 bif decide (y14<y10) then
 bnd a1.length x5.2 fun n20=>
 Option.bind a1[n20]? fun y21=>
 bnd x19.length y21.1 fun n22=>
 Option.bind x19[n22]? fun y23=>
 some (x19.set n22 y14)
 else some x19:Option ((List (Int)))) fun x24=>
 self6 (x24,IntKind.wrap .i64 (x5.2+(1:Int)))
 else some x5.1) (x3.1,(0:Int)):Option ((List (Int)))) fun x25=>
 self4 (x25,IntKind.wrap .i64 (x3.2+(1:Int)))
 else some x3.1) (x2,(0:Int)):Option ((List (Int)))) fun x26=>
 some (x26,()):=by kernel_rfl
def c_sHeadNew:TC:=
 (.seq (.rg [o5 (.a (.c Ty2 [kV 0,.slice none 0 0,.slice none 0 0,.slice none 0 0,.slice none 0 0,kV 0,kV 0,kV 0,kV 0,kV 0,kV 0,kV 0,.slice none 0 0,kV 0,.slice none 0 0])) 4 1000000001,
 o1 5 (.lit [.b] [.bool false])])
 (.seq (.seq (.join [⟨16,[.b],false⟩] 130560 none (.rg [oc 9 0,
 o3 10 50 [.t 9,kO 1,kO 12],
 o1 11 (.data .not [.t 10]),
 oc 12 11,
 o2 13 (.copy 1) 3 false,
 ⟨false,[],[],.call 1 50 [.t 13,kO 1,kO 3] .no,[14],(some 14),some (3,false)⟩,
 o2 15 (.data .not [.t 14]) 3 false,
 o7 12 (.c (.bool true)) (.t 15) 16]))
 (.cond (.t 16)
 (.seq (.rg [o1 17 (.build Ty2 []),
 o4 2 [4,17] (.store 4 [] 0 .nil (.t 17)),
 o1 5 (.lit [.b] [.bool false])])
 .ret)
 .skip))
 (.seq (.rg [oc 18 0,
 oc 19 1,
 o1 20 (.make (.t 19) [.i .i64]),
 o5 (.build Ty2 [(0,.t 18),(4,.t 20)]) 21 20,
 o5 (.a (.c Ty2 [kV 0,.slice none 0 0,.slice none 0 0,.slice none 0 0,.slice none 0 0,kV 0,kV 0,kV 0,kV 0,kV 0,kV 0,kV 0,.slice none 0 0,kV 0,.slice none 0 0])) 6 1000000001,
 o4 2 [6,21] (.store 6 [] 0 .nil (.t 21))])
 (.seq (.join [⟨6,Ty2,false⟩] 68715282624 none (.seq (.rg [o1 7 (kL 0)])
 (.block 0 (.loop [⟨6,Ty2,false⟩,⟨7,[.i .i64],false⟩] 68715282624
 (.seq (.seq (.rg [oc 22 7,
 oc 23 0,
 o1 24 (.data (.bin .lss) [.t 22,.t 23])])
 (.cond (.t 24)
 .skip
 (.exit 0)))
 (.seq (.block 1 (.rg [oi 27,
 o1 28 (.load 6 [] 1 (.t 27) 1 true),
 oc 29 7,
 oc 30 1,
 o1 31 (.data (.bin .rem) [.t 29,.t 30]),
 o1 32 (.data (.bin .add) [kD 1,.t 31]),
 o1 33 (.sli [.i .i64] [.t 32]),
 ⟨false,[28],[],.det 2 (.app (some 28) 33),[34,28,28,6],(some 34),none⟩,
 oi 35,
 o4 2 [6,34,28] (.store 6 [] 1 (.t 35) (.t 34))]))
 (.rg [oc 25 7,
 o1 26 (.data (.bin .add) [.t 25,kD 1]),
 oc 7 26])))))))
 (.seq (.join [⟨6,Ty2,false⟩] 562881233944896 none (.seq (.rg [o1 8 (kL 0)])
 (.block 2 (.loop [⟨6,Ty2,false⟩,⟨8,[.i .i64],false⟩] 562881233944896
 (.seq (.seq (.rg [oc 36 8,
 oc 37 1,
 o1 38 (.data (.bin .lss) [.t 36,.t 37])])
 (.cond (.t 38)
 .skip
 (.exit 2)))
 (.seq (.block 3 (.rg [oi 41,
 o1 42 (.load 6 [] 3 (.t 41) 1 true),
 oc 43 0,
 o1 44 (.sli [.i .i64,.i .i64] []),
 o3 45 51 [.t 43,.t 44],
 o5 (.sli [.sl [.i .i64]] [.t 45]) 46 45,
 ⟨false,[42],[],.det 3 (.app (some 42) 46),[47,42,46,42,6],(some 47),none⟩,
 oi 48,
 o4 2 [6,47,42] (.store 6 [] 3 (.t 48) (.t 47))]))
 (.rg [oc 39 8,
 o1 40 (.data (.bin .add) [.t 39,kD 1]),
 oc 8 40])))))))
 (.seq (.rg [o1 49 (.load 6 [] 0 .nil 15 true),
 ⟨false,[49],[],.det 2 (.store 4 [] 0 .nil (.t 49)),[4,49,49,6],none,none⟩,
 o1 5 (.lit [.b] [.bool true])])
 .ret))))))
def s_sHeadNew:Sig:=⟨[.rd false [.d],.rd false [.d]],(.tup [(true,15),(false,1)] Ct0)⟩
def E_sHeadNew:TEnv:=envOf [(50,p_sl01In),(51,p_sl05Labels)]
def f_sHeadNew (n:Nat):Int × Int->Option ((Int × List (Int) × List (Int × Int) × List (List (Int)) × List (Int) × Int × Int × Int × Int × Int × Int × Int × List (Int × Int) × Int × List (Int × Int × Int × Int × Int × Int) × Bool) × Unit):=runFn n E_sHeadNew c_sHeadNew [[.i .i64],[.i .i64]] Ty1 [] [4,5] .no
def g_sHeadNew:=f_sHeadNew BIG
def p_sHeadNew:TSp:=⟨s_sHeadNew,[[.i .i64],[.i .i64]],Ty1,[],Ou.j .no,g_sHeadNew⟩
theorem k_sHeadNew:chkW PG E_sHeadNew 25 s_sHeadNew (c_sHeadNew.ht 50) .no=some (c_sHeadNew.wc E_sHeadNew,[4,5]):=by kernel_rfl
theorem ok_sHeadNew:p_sHeadNew.Ok PG 25:=mkOk (env_cons ok_sl01In (env_cons ok_sl05Labels (env_nil PG))) k_sHeadNew (by kernel_rfl)
theorem e_sHeadNew (n) (a0) (a1):f_sHeadNew n (a0,a1) =
 Option.bind (Option.bind (g_sl01In (a0,(1:Int),(12:Int))) fun r0=>
 bif !r0.1 then
 some true
 else Option.bind (g_sl01In (a1,(1:Int),(3:Int))) fun r1=>
 some !r1.1:Option (Bool)) fun x2=>
 bif x2 then
 some (((0:Int),[],[],[],[],(0:Int),(0:Int),(0:Int),(0:Int),(0:Int),(0:Int),(0:Int),[],(0:Int),[],false),())
 else bif decide (0<=a1) then
 bif decide ((Int.toNat a1)<=4294967296) then
 Option.bind (loopT n (X:=(Int × List (Int) × List (Int × Int) × List ((List (Int))) × List (Int) × Int × Int × Int × Int × Int × Int × Int × List (Int × Int) × Int × List (Int × Int × Int × Int × Int × Int)) × Int) (B:=(Int × List (Int) × List (Int × Int) × List ((List (Int))) × List (Int) × Int × Int × Int × Int × Int × Int × Int × List (Int × Int) × Int × List (Int × Int × Int × Int × Int × Int))) (fun self4 x3=>
 bif decide (x3.2<a0) then
 bif decide (a1=0) then
 none
 else bif decide (x3.1.2.1.length+([IntKind.wrap .i64 ((1:Int)+(Int.tmod x3.2 a1))]).length<=4294967296) then
 self4 ((x3.1.1,x3.1.2.1++([IntKind.wrap .i64 ((1:Int)+(Int.tmod x3.2 a1))]),x3.1.2.2),IntKind.wrap .i64 (x3.2+(1:Int)))
 else none
 else some x3.1) ((a0,[],[],[],List.replicate (Int.toNat a1) (0:Int),(0:Int),(0:Int),(0:Int),(0:Int),(0:Int),(0:Int),(0:Int),[],(0:Int),[]),(0:Int)):Option ((Int × List (Int) × List (Int × Int) × List ((List (Int))) × List (Int) × Int × Int × Int × Int × Int × Int × Int × List (Int × Int) × Int × List (Int × Int × Int × Int × Int × Int)))) fun x5=>
 Option.bind (loopT n (X:=(Int × List (Int) × List (Int × Int) × List ((List (Int))) × List (Int) × Int × Int × Int × Int × Int × Int × Int × List (Int × Int) × Int × List (Int × Int × Int × Int × Int × Int)) × Int) (B:=(Int × List (Int) × List (Int × Int) × List ((List (Int))) × List (Int) × Int × Int × Int × Int × Int × Int × Int × List (Int × Int) × Int × List (Int × Int × Int × Int × Int × Int))) (fun self7 x6=>
 bif decide (x6.2<a1) then
 Option.bind (g_sl05Labels (a0,[])) fun r8=>
 bif decide (x6.1.2.2.2.1.length+[r8.1].length<=4294967296) then
 self7 ((x6.1.1,x6.1.2.1,x6.1.2.2.1,x6.1.2.2.2.1++[r8.1],x6.1.2.2.2.2),IntKind.wrap .i64 (x6.2+(1:Int)))
 else none
 else some x6.1) (x5,(0:Int)):Option ((Int × List (Int) × List (Int × Int) × List ((List (Int))) × List (Int) × Int × Int × Int × Int × Int × Int × Int × List (Int × Int) × Int × List (Int × Int × Int × Int × Int × Int)))) fun x9=>
 some ((x9.1,x9.2.1,x9.2.2.1,x9.2.2.2.1,x9.2.2.2.2.1,x9.2.2.2.2.2.1,x9.2.2.2.2.2.2.1,x9.2.2.2.2.2.2.2.1,x9.2.2.2.2.2.2.2.2.1,x9.2.2.2.2.2.2.2.2.2.1,x9.2.2.2.2.2.2.2.2.2.2.1,x9.2.2.2.2.2.2.2.2.2.2.2.1,x9.2.2.2.2.2.2.2.2.2.2.2.2.1,x9.2.2.2.2.2.2.2.2.2.2.2.2.2.1,x9.2.2.2.2.2.2.2.2.2.2.2.2.2.2,true),())
 else none
 else none:=by kernel_rfl
def c_sl09CopyOrder:TC:=
 (.seq (.rg [o1 1 (.a (.t 0)),
 o5 (.a (.c Ty10 [kV 0,kV 0,.slice none 0 0,kV 0])) 2 1000000001])
 (.seq (.rg [o1 3 (.sli [.i .i64,.i .i64] []),
 oi 4,
 o1 5 (.load 1 [] 2 (.t 4) 1 false),
 o5 (.app (some 3) 5) 6 3,
 oi 7,
 o4 2 [1,6] (.store 1 [] 2 (.t 7) (.t 6))])
 (.seq (.rg [o1 8 (.load 1 [] 0 .nil 4 true),
 ⟨false,[8],[],.det 2 (.store 2 [] 0 .nil (.t 8)),[2,8,8,1],none,none⟩])
 .ret)))
def s_sl09CopyOrder:Sig:=⟨[.rd true Ct7],(.one true Ct7)⟩
def E_sl09CopyOrder:TEnv:=envOf []
def f_sl09CopyOrder (n:Nat):(Int × Int × List (Int × Int) × Int)->Option ((Int × Int × List (Int × Int) × Int) × Unit):=runFn n E_sl09CopyOrder c_sl09CopyOrder [Ty10] Ty10 [] [2] .no
def g_sl09CopyOrder:=f_sl09CopyOrder BIG
def p_sl09CopyOrder:TSp:=⟨s_sl09CopyOrder,[Ty10],Ty10,[],Ou.j .no,g_sl09CopyOrder⟩
theorem k_sl09CopyOrder:chkW PG E_sl09CopyOrder 62 s_sl09CopyOrder (c_sl09CopyOrder.ht 9) .no=some (c_sl09CopyOrder.wc E_sl09CopyOrder,[2]):=by kernel_rfl
theorem ok_sl09CopyOrder:p_sl09CopyOrder.Ok PG 62:=mkOk (env_nil PG) k_sl09CopyOrder (by kernel_rfl)
theorem e_sl09CopyOrder (n) (a0):f_sl09CopyOrder n a0 =
 bif decide (0+a0.2.2.1.length<=4294967296) then
 some ((a0.1,a0.2.1,[]++a0.2.2.1,a0.2.2.2),())
 else none:=by kernel_rfl
def c_sl12Copy:TC:=
 (.seq (.rg [o1 1 (.a (.t 0)),
 o5 (.a (.c Ty2 [kV 0,.slice none 0 0,.slice none 0 0,.slice none 0 0,.slice none 0 0,kV 0,kV 0,kV 0,kV 0,kV 0,kV 0,kV 0,.slice none 0 0,kV 0,.slice none 0 0])) 2 1000000001])
 (.seq (.rg [o1 5 (.sli [.i .i64] []),
 oi 6,
 o1 7 (.load 1 [] 1 (.t 6) 1 false),
 o5 (.app (some 5) 7) 8 5,
 oi 9,
 o4 2 [1,8] (.store 1 [] 1 (.t 9) (.t 8))])
 (.seq (.rg [o1 10 (.sli [.i .i64,.i .i64] []),
 oi 11,
 o1 12 (.load 1 [] 2 (.t 11) 1 false),
 o5 (.app (some 10) 12) 13 10,
 oi 14,
 o4 2 [1,13] (.store 1 [] 2 (.t 14) (.t 13))])
 (.seq (.rg [o1 15 (.sli [.i .i64] []),
 oi 16,
 o1 17 (.load 1 [] 4 (.t 16) 1 false),
 o5 (.app (some 15) 17) 18 15,
 oi 19,
 o4 2 [1,18] (.store 1 [] 4 (.t 19) (.t 18))])
 (.seq (.rg [o1 20 (.sli Ty8 []),
 oi 21,
 o1 22 (.load 1 [] 14 (.t 21) 1 false),
 o5 (.app (some 20) 22) 23 20,
 oi 24,
 o4 2 [1,23] (.store 1 [] 14 (.t 24) (.t 23))])
 (.seq (.rg [o1 25 (.sli [.sl [.i .i64]] []),
 o5 (.copy 25) 3 25])
 (.seq (.join [⟨3,[.sl [.sl [.i .i64]]],false⟩] 8796025913368 none (.seq (.rg [o1 4 (kL 0)])
 (.block 0 (.loop [⟨3,[.sl [.sl [.i .i64]]],false⟩,⟨4,[.i .i64],false⟩] 8796025913368
 (.seq (.seq (.rg [oc 26 4,
 oi 27,
 o1 28 (.load 1 [] 3 (.t 27) 1 false),
 o1 29 (.len 28),
 o1 30 (.data (.bin .lss) [.t 26,.t 29])])
 (.cond (.t 30)
 .skip
 (.exit 0)))
 (.seq (.block 1 (.rg [o5 (.copy 3) 33 3,
 o1 34 (.sli [.i .i64] []),
 oi 35,
 o1 36 (.load 1 [] 3 (.t 35) 1 false),
 oc 37 4,
 o1 38 (.index 36 (.t 37)),
 o1 39 (.load 36 [(0,1)] 0 (.t 38) 1 false),
 o5 (.app (some 34) 39) 40 34,
 o5 (.sli [.sl [.i .i64]] [.t 40]) 41 40,
 ⟨false,[],[],.det 3 (.app (some 33) 41),[42,33,41],(some 42),none⟩,
 o5 (.copy 42) 3 42]))
 (.rg [oc 31 4,
 o1 32 (.data (.bin .add) [.t 31,kD 1]),
 oc 4 32])))))))
 (.seq (.rg [o5 (.copy 3) 43 3,
 oi 44,
 o4 2 [1,43] (.store 1 [] 3 (.t 44) (.t 43))])
 (.seq (.rg [oi 45,
 o1 46 (.idx (.t 45)),
 o1 47 (.load 1 [] 10 (.t 46) 4 false),
 o3 48 62 [.t 47],
 oi 49,
 o1 50 (.idx (.t 49)),
 o4 2 [1,48] (.store 1 [] 10 (.t 50) (.t 48))])
 (.seq (.rg [o1 51 (.load 1 [] 0 .nil 15 true),
 ⟨false,[51],[],.det 2 (.store 2 [] 0 .nil (.t 51)),[2,51,51,1],none,none⟩])
 .ret))))))))))
def s_sl12Copy:Sig:=⟨[.rd true Ct1],(.one true Ct1)⟩
def E_sl12Copy:TEnv:=envOf [(62,p_sl09CopyOrder)]
def f_sl12Copy (n:Nat):(Int × List (Int) × List (Int × Int) × List (List (Int)) × List (Int) × Int × Int × Int × Int × Int × Int × Int × List (Int × Int) × Int × List (Int × Int × Int × Int × Int × Int))->Option ((Int × List (Int) × List (Int × Int) × List (List (Int)) × List (Int) × Int × Int × Int × Int × Int × Int × Int × List (Int × Int) × Int × List (Int × Int × Int × Int × Int × Int)) × Unit):=runFn n E_sl12Copy c_sl12Copy [Ty2] Ty2 [] [2] .no
def g_sl12Copy:=f_sl12Copy BIG
def p_sl12Copy:TSp:=⟨s_sl12Copy,[Ty2],Ty2,[],Ou.j .no,g_sl12Copy⟩
theorem k_sl12Copy:chkW PG E_sl12Copy 28 s_sl12Copy (c_sl12Copy.ht 52) .no=some (c_sl12Copy.wc E_sl12Copy,[2]):=by kernel_rfl
theorem ok_sl12Copy:p_sl12Copy.Ok PG 28:=mkOk (env_cons ok_sl09CopyOrder (env_nil PG)) k_sl12Copy (by kernel_rfl)
theorem e_sl12Copy (n) (a0):f_sl12Copy n a0 =
 bif decide (0+a0.2.1.length<=4294967296) then
 bif decide (0+a0.2.2.1.length<=4294967296) then
 bif decide (0+a0.2.2.2.2.1.length<=4294967296) then
 bif decide (0+a0.2.2.2.2.2.2.2.2.2.2.2.2.2.2.length<=4294967296) then
 Option.bind (loopT n (X:=(List ((List (Int)))) × Int) (B:=(List ((List (Int))))) (fun self1 x0=>
 bif decide (x0.2<(a0.2.2.2.1.length:Int)) then
 bnd a0.2.2.2.1.length x0.2 fun n2=>
 Option.bind a0.2.2.2.1[n2]? fun y3=>
 bif decide (0+y3.length<=4294967296) then
 bif decide (x0.1.length+([[]++y3]).length<=4294967296) then
 self1 (x0.1++([[]++y3]),IntKind.wrap .i64 (x0.2+(1:Int)))
 else none
 else none
 else some x0.1) ([],(0:Int)):Option ((List ((List (Int)))))) fun x4=>
 Option.bind (g_sl09CopyOrder (a0.2.2.2.2.2.2.2.2.2.2.1,a0.2.2.2.2.2.2.2.2.2.2.2.1,a0.2.2.2.2.2.2.2.2.2.2.2.2.1,a0.2.2.2.2.2.2.2.2.2.2.2.2.2.1)) fun r5=>
 some ((a0.1,[]++a0.2.1,[]++a0.2.2.1,x4,[]++a0.2.2.2.2.1,a0.2.2.2.2.2.1,a0.2.2.2.2.2.2.1,a0.2.2.2.2.2.2.2.1,a0.2.2.2.2.2.2.2.2.1,a0.2.2.2.2.2.2.2.2.2.1,r5.1.1,r5.1.2.1,r5.1.2.2.1,r5.1.2.2.2,[]++a0.2.2.2.2.2.2.2.2.2.2.2.2.2.2),())
 else none
 else none
 else none
 else none:=by kernel_rfl
def c_sEdgeOk:TC:=
 (.seq (.rg [o1 3 (.a (.t 1)),
 o1 4 (.lit [.b] [.bool false])])
 (.seq (.join [⟨4,[.b],false⟩] 268435440 none (.rg [oc 5 0,
 o3 6 50 [.t 5,kO 1,kO 12],
 oc 7 6,
 o2 8 (.idx .nil) 2 true,
 o2 9 (.load 3 [] 0 (.t 8) 1 false) 2 true,
 o2 10 (.copy 0) 2 true,
 o2 11 (.data (.bin .sub) [.t 10,kD 1]) 2 true,
 ⟨false,[],[],.call 1 50 [.t 9,kO 0,.t 11] .no,[12],(some 12),some (2,true)⟩,
 o7 7 (.t 12) (.c (.bool false)) 13,
 oc 14 13,
 o2 15 (.idx .nil) 9 true,
 o2 16 (.load 3 [] 1 (.t 15) 1 false) 9 true,
 o2 17 (.copy 0) 9 true,
 o2 18 (.data (.bin .sub) [.t 17,kD 1]) 9 true,
 ⟨false,[],[],.call 1 50 [.t 16,kO 0,.t 18] .no,[19],(some 19),some (9,true)⟩,
 o7 14 (.t 19) (.c (.bool false)) 20,
 oc 21 20,
 o2 22 (.idx .nil) 16 true,
 o2 23 (.load 3 [] 0 (.t 22) 1 false) 16 true,
 o2 24 (.idx .nil) 16 true,
 o2 25 (.load 3 [] 1 (.t 24) 1 false) 16 true,
 o2 26 (.data (.bin .lss) [.t 23,.t 25]) 16 true,
 o7 21 (.t 26) (.c (.bool false)) 27,
 oc 4 27]))
 .ret))
def s_sEdgeOk:Sig:=⟨[.rd false [.d],.rd true [.d,.d]],(.one false [.d])⟩
def E_sEdgeOk:TEnv:=envOf [(50,p_sl01In)]
def f_sEdgeOk (n:Nat):Int × (Int × Int)->Option ((Bool) × Unit):=runFn n E_sEdgeOk c_sEdgeOk [[.i .i64],[.i .i64,.i .i64]] [.b] [] [4] .no
def g_sEdgeOk:=f_sEdgeOk BIG
def p_sEdgeOk:TSp:=⟨s_sEdgeOk,[[.i .i64],[.i .i64,.i .i64]],[.b],[],Ou.j .no,g_sEdgeOk⟩
theorem k_sEdgeOk:chkW PG E_sEdgeOk 85 s_sEdgeOk (c_sEdgeOk.ht 28) .no=some (c_sEdgeOk.wc E_sEdgeOk,[4]):=by kernel_rfl
theorem ok_sEdgeOk:p_sEdgeOk.Ok PG 85:=mkOk (env_cons ok_sl01In (env_nil PG)) k_sEdgeOk (by kernel_rfl)
theorem e_sEdgeOk (n) (a0) (a1):f_sEdgeOk n (a0,a1) =
 Option.bind (Option.bind (g_sl01In (a0,(1:Int),(12:Int))) fun r0=>
 bif r0.1 then
 Option.bind (g_sl01In (a1.1,(0:Int),IntKind.wrap .i64 (a0-(1:Int)))) fun r1=>
 bif r1.1 then
 Option.bind (g_sl01In (a1.2,(0:Int),IntKind.wrap .i64 (a0-(1:Int)))) fun r2=>
 bif r2.1 then
 some (decide (a1.1<a1.2))
 else some false
 else some false
 else some false:Option (Bool)) fun x3=>
 some (x3,()):=by kernel_rfl
def c_sl05Less:TC:=
 (.seq (.rg [o1 2 (.a (.t 0)),
 o1 3 (.a (.t 1)),
 o1 4 (.lit [.b] [.bool false])])
 (.seq (.join [⟨4,[.b],false⟩] 16777200 none (.rg [oi 5,
 o1 6 (.load 2 [] 0 (.t 5) 1 false),
 oi 7,
 o1 8 (.load 3 [] 0 (.t 7) 1 false),
 o1 9 (.data (.bin .lss) [.t 6,.t 8]),
 oc 10 9,
 o2 11 (.idx .nil) 5 false,
 o2 12 (.load 2 [] 0 (.t 11) 1 false) 5 false,
 o2 13 (.idx .nil) 5 false,
 o2 14 (.load 3 [] 0 (.t 13) 1 false) 5 false,
 o2 15 (.data (.bin .eql) [.t 12,.t 14]) 5 false,
 o2 16 (.copy 15) 5 false,
 o2 17 (.idx .nil) 11 true,
 o2 18 (.load 2 [] 1 (.t 17) 1 false) 11 true,
 o2 19 (.idx .nil) 11 true,
 o2 20 (.load 3 [] 1 (.t 19) 1 false) 11 true,
 o2 21 (.data (.bin .lss) [.t 18,.t 20]) 11 true,
 ⟨false,[],[],.pick 16 (.t 21) (.c (.bool false)),[22],(some 22),some (5,false)⟩,
 o7 10 (.c (.bool true)) (.t 22) 23,
 oc 4 23]))
 .ret))
def s_sl05Less:Sig:=⟨[.rd true [.d,.d],.rd true [.d,.d]],(.one false [.d])⟩
def E_sl05Less:TEnv:=envOf []
def f_sl05Less (n:Nat):(Int × Int) × (Int × Int)->Option ((Bool) × Unit):=runFn n E_sl05Less c_sl05Less [[.i .i64,.i .i64],[.i .i64,.i .i64]] [.b] [] [4] .no
def g_sl05Less:=f_sl05Less BIG
def p_sl05Less:TSp:=⟨s_sl05Less,[[.i .i64,.i .i64],[.i .i64,.i .i64]],[.b],[],Ou.j .no,g_sl05Less⟩
theorem k_sl05Less:chkW PG E_sl05Less 107 s_sl05Less (c_sl05Less.ht 24) .no=some (c_sl05Less.wc E_sl05Less,[4]):=by kernel_rfl
theorem ok_sl05Less:p_sl05Less.Ok PG 107:=mkOk (env_nil PG) k_sl05Less (by kernel_rfl)
theorem e_sl05Less (n) (a0) (a1):f_sl05Less n (a0,a1) =
 Option.bind (bif decide (a0.1<a1.1) then
 some true
 else bif decide (a0.1=a1.1) then
 some (decide (a0.2<a1.2))
 else some false:Option (Bool)) fun x0=>
 some (x0,()):=by kernel_rfl
def c_sl05Edges:TC:=
 (.seq (.rg [o1 4 (.lit [.b] [.bool false])])
 (.seq (.join [] 68719476720 (some [⟨4,[.b],false⟩]) (.seq (.rg [o1 5 (kL 0)])
 (.block 0 (.loop [⟨5,[.i .i64],false⟩] 68719476720
 (.seq (.seq (.rg [oc 6 5,
 oc 7 1,
 o1 8 (.len 7),
 o1 9 (.data (.bin .lss) [.t 6,.t 8])])
 (.cond (.t 9)
 .skip
 (.exit 0)))
 (.seq (.join [] 68719472656 (some [⟨4,[.b],false⟩]) (.block 1 (.seq (.join [⟨35,[.b],false⟩] 68719472640 none (.rg [oc 12 0,
 oc 13 1,
 oc 14 5,
 o1 15 (.index 13 (.t 14)),
 o1 16 (.load 13 [(0,2)] 0 (.t 15) 2 false),
 o3 17 85 [.t 12,.t 16],
 o1 18 (.data .not [.t 17]),
 oc 19 18,
 o2 20 (.copy 5) 7 false,
 o2 21 (.data (.bin .gtr) [.t 20,kD 0]) 7 false,
 o2 22 (.copy 21) 7 false,
 o2 23 (.copy 1) 10 true,
 o2 24 (.copy 5) 10 true,
 o2 25 (.data (.bin .sub) [.t 24,kD 1]) 10 true,
 o2 26 (.index 23 (.t 25)) 10 true,
 o2 27 (.load 23 [(0,2)] 0 (.t 26) 2 false) 10 true,
 o2 28 (.copy 1) 10 true,
 o2 29 (.copy 5) 10 true,
 o2 30 (.index 28 (.t 29)) 10 true,
 o2 31 (.load 28 [(0,2)] 0 (.t 30) 2 false) 10 true,
 ⟨false,[],[],.call 1 107 [.t 27,.t 31] .no,[32],(some 32),some (10,true)⟩,
 o2 33 (.data .not [.t 32]) 10 true,
 ⟨false,[],[],.pick 22 (.t 33) (.c (.bool false)),[34],(some 34),some (7,false)⟩,
 o7 19 (.c (.bool true)) (.t 34) 35]))
 (.cond (.t 35)
 (.seq (.rg [o1 4 (.lit [.b] [.bool false])])
 .ret)
 .skip))))
 (.rg [oc 10 5,
 o1 11 (.data (.bin .add) [.t 10,kD 1]),
 oc 5 11])))))))
 (.seq (.rg [oc 36 1,
 o1 37 (.len 36),
 o1 38 (.data (.bin .leq) [.t 37,kD 66]),
 oc 4 38])
 .ret)))
def s_sl05Edges:Sig:=⟨[.rd false [.d],.rd false Ct8],(.one false [.d])⟩
def E_sl05Edges:TEnv:=envOf [(85,p_sEdgeOk),(107,p_sl05Less)]
def f_sl05Edges (n:Nat):Int × (List (Int × Int))->Option ((Bool) × Unit):=runFn n E_sl05Edges c_sl05Edges [[.i .i64],[.sl [.i .i64,.i .i64]]] [.b] [] [4] .no
def g_sl05Edges:=f_sl05Edges BIG
def p_sl05Edges:TSp:=⟨s_sl05Edges,[[.i .i64],[.sl [.i .i64,.i .i64]]],[.b],[],Ou.j .no,g_sl05Edges⟩
theorem k_sl05Edges:chkW PG E_sl05Edges 82 s_sl05Edges (c_sl05Edges.ht 39) .no=some (c_sl05Edges.wc E_sl05Edges,[4]):=by kernel_rfl
theorem ok_sl05Edges:p_sl05Edges.Ok PG 82:=mkOk (env_cons ok_sEdgeOk (env_cons ok_sl05Less (env_nil PG))) k_sl05Edges (by kernel_rfl)
theorem e_sl05Edges (n) (a0) (a1):f_sl05Edges n (a0,a1) =
 Option.bind (loopT n (X:=Int) (B:=(Unit) ⊕ (Bool)) (fun self1 x0=>
  bif decide (x0<(a1.length:Int)) then
   Option.bind (Option.bind (bnd a1.length x0 fun n2=>
    Option.bind a1[n2]? fun y3=>
    Option.bind (g_sEdgeOk (a0,y3)) fun r4=>
    bif !r4.1 then
     some true
    else bif decide ((0:Int)<x0) then
     bnd a1.length (IntKind.wrap .i64 (x0-(1:Int))) fun n5=>
     Option.bind a1[n5]? fun y6=>
     bnd a1.length x0 fun n7=>
     Option.bind a1[n7]? fun y8=>
     Option.bind (g_sl05Less (y6,y8)) fun r9=>
     some !r9.1
    else some false:Option (Bool)) fun x10=>
    bif x10 then
     some (Sum.inr false)
    else some (Sum.inl ()):Option ((Unit) ⊕ (Bool))) fun y=>match y with
   | .inl x11=>
    self1 (IntKind.wrap .i64 (x0+(1:Int)))
   | .inr x11=>
    some (Sum.inr x11)
  else some (Sum.inl ())) (0:Int):Option ((Unit) ⊕ (Bool))) fun y=>match y with
 | .inl x12=>
  some (decide ((a1.length:Int)<=(66:Int)),())
 | .inr x12=>
  some (x12,()):=by kernel_rfl
def c_sl09Labels:TC:=
 (.seq (.rg [o1 4 (.lit [.b] [.bool false])])
 (.seq (.seq (.rg [oc 6 1,
 o1 7 (.len 6),
 oc 8 0,
 o1 9 (.data (.bin .neq) [.t 7,.t 8])])
 (.cond (.t 9)
 (.seq (.rg [o1 4 (.lit [.b] [.bool false])])
 .ret)
 .skip))
 (.seq (.join [] 68719475760 (some [⟨4,[.b],false⟩]) (.seq (.rg [o1 5 (kL 0)])
 (.block 0 (.loop [⟨5,[.i .i64],false⟩] 68719475760
 (.seq (.seq (.rg [oc 10 5,
 oc 11 0,
 o1 12 (.data (.bin .lss) [.t 10,.t 11])])
 (.cond (.t 12)
 .skip
 (.exit 0)))
 (.seq (.join [] 68719443984 (some [⟨4,[.b],false⟩]) (.block 1 (.seq (.join [⟨35,[.b],false⟩] 68719443968 none (.rg [oc 15 1,
 oc 16 5,
 o1 17 (.index 15 (.t 16)),
 o1 18 (.load 15 [(0,1)] 0 (.t 17) 1 false),
 oc 19 5,
 o3 20 50 [.t 18,kO 0,.t 19],
 o1 21 (.data .not [.t 20]),
 oc 22 21,
 o2 23 (.copy 1) 7 false,
 o2 24 (.copy 1) 7 false,
 o2 25 (.copy 5) 7 false,
 o2 26 (.index 24 (.t 25)) 7 false,
 o2 27 (.load 24 [(0,1)] 0 (.t 26) 1 false) 7 false,
 o2 28 (.index 23 (.t 27)) 7 false,
 o2 29 (.load 23 [(0,1)] 0 (.t 28) 1 false) 7 false,
 o2 30 (.copy 1) 7 false,
 o2 31 (.copy 5) 7 false,
 o2 32 (.index 30 (.t 31)) 7 false,
 o2 33 (.load 30 [(0,1)] 0 (.t 32) 1 false) 7 false,
 o2 34 (.data (.bin .neq) [.t 29,.t 33]) 7 false,
 o7 22 (.c (.bool true)) (.t 34) 35]))
 (.cond (.t 35)
 (.seq (.rg [o1 4 (.lit [.b] [.bool false])])
 .ret)
 .skip))))
 (.rg [oc 13 5,
 o1 14 (.data (.bin .add) [.t 13,kD 1]),
 oc 5 14])))))))
 (.seq (.rg [o1 4 (.lit [.b] [.bool true])])
 .ret))))
def s_sl09Labels:Sig:=⟨[.rd false [.d],.rd false Ct9],(.one false [.d])⟩
def E_sl09Labels:TEnv:=envOf [(50,p_sl01In)]
def f_sl09Labels (n:Nat):Int × List (Int)->Option ((Bool) × Unit):=runFn n E_sl09Labels c_sl09Labels [[.i .i64],[.sl [.i .i64]]] [.b] [] [4] .no
def g_sl09Labels:=f_sl09Labels BIG
def p_sl09Labels:TSp:=⟨s_sl09Labels,[[.i .i64],[.sl [.i .i64]]],[.b],[],Ou.j .no,g_sl09Labels⟩
theorem k_sl09Labels:chkW PG E_sl09Labels 83 s_sl09Labels (c_sl09Labels.ht 36) .no=some (c_sl09Labels.wc E_sl09Labels,[4]):=by kernel_rfl
theorem ok_sl09Labels:p_sl09Labels.Ok PG 83:=mkOk (env_cons ok_sl01In (env_nil PG)) k_sl09Labels (by kernel_rfl)
theorem e_sl09Labels (n) (a0) (a1):f_sl09Labels n (a0,a1) =
 bif !decide ((a1.length:Int)=a0) then
  some (false,())
 else Option.bind (loopT n (X:=Int) (B:=(Unit) ⊕ (Bool)) (fun self1 x0=>
  bif decide (x0<a0) then
   Option.bind (Option.bind (bnd a1.length x0 fun n2=>
    Option.bind a1[n2]? fun y3=>
    Option.bind (g_sl01In (y3,(0:Int),x0)) fun r4=>
    bif !r4.1 then
     some true
    else bnd a1.length x0 fun n5=>
    Option.bind a1[n5]? fun y6=>
    bnd a1.length y6 fun n7=>
    Option.bind a1[n7]? fun y8=>
    bnd a1.length x0 fun n9=>
    Option.bind a1[n9]? fun y10=>
    some (!decide (y8=y10)):Option (Bool)) fun x11=>
    bif x11 then
     some (Sum.inr false)
    else some (Sum.inl ()):Option ((Unit) ⊕ (Bool))) fun y=>match y with
   | .inl x12=>
    self1 (IntKind.wrap .i64 (x0+(1:Int)))
   | .inr x12=>
    some (Sum.inr x12)
  else some (Sum.inl ())) (0:Int):Option ((Unit) ⊕ (Bool))) fun y=>match y with
 | .inl x13=>
  some (true,())
 | .inr x13=>
  some (x13,()):=by kernel_rfl
def c_sl12Said:TC:=
 (.seq (.rg [o1 2 (.a (.t 0)),
 o1 4 (kL 0)])
 (.seq (.join [] 4194288 (some [⟨4,[.i .i64],false⟩]) (.seq (.rg [o1 5 (kL 0)])
 (.block 0 (.loop [⟨5,[.i .i64],false⟩] 4194288
 (.seq (.seq (.rg [oc 6 5,
 oi 7,
 o1 8 (.load 2 [] 14 (.t 7) 1 false),
 o1 9 (.len 8),
 o1 10 (.data (.bin .lss) [.t 6,.t 9])])
 (.cond (.t 10)
 .skip
 (.exit 0)))
 (.seq (.block 1 (.seq (.rg [oi 13,
 o1 14 (.load 2 [] 14 (.t 13) 1 false),
 oc 15 5,
 o1 16 (.index 14 (.t 15)),
 o1 17 (.idx (.t 16)),
 o1 18 (.load 14 [(0,6)] 0 (.t 17) 1 false),
 oc 19 1,
 o1 20 (.data (.bin .eql) [.t 18,.t 19])])
 (.cond (.t 20)
 (.seq (.rg [oc 21 5,
 oc 4 21])
 .ret)
 .skip)))
 (.rg [oc 11 5,
 o1 12 (.data (.bin .add) [.t 11,kD 1]),
 oc 5 12])))))))
 (.seq (.rg [o1 4 (kL (-1))])
 .ret)))
def s_sl12Said:Sig:=⟨[.rd true Ct1,.rd false [.d]],(.one false [.d])⟩
def E_sl12Said:TEnv:=envOf []
def f_sl12Said (n:Nat):(Int × List (Int) × List (Int × Int) × List (List (Int)) × List (Int) × Int × Int × Int × Int × Int × Int × Int × List (Int × Int) × Int × List (Int × Int × Int × Int × Int × Int)) × Int->Option ((Int) × Unit):=runFn n E_sl12Said c_sl12Said [Ty2,[.i .i64]] [.i .i64] [] [4] .no
def g_sl12Said:=f_sl12Said BIG
def p_sl12Said:TSp:=⟨s_sl12Said,[Ty2,[.i .i64]],[.i .i64],[],Ou.j .no,g_sl12Said⟩
theorem k_sl12Said:chkW PG E_sl12Said 53 s_sl12Said (c_sl12Said.ht 22) .no=some (c_sl12Said.wc E_sl12Said,[4]):=by kernel_rfl
theorem ok_sl12Said:p_sl12Said.Ok PG 53:=mkOk (env_nil PG) k_sl12Said (by kernel_rfl)
theorem e_sl12Said (n) (a0) (a1):f_sl12Said n (a0,a1) =
 Option.bind (loopT n (X:=Int) (B:=(Unit) ⊕ (Int)) (fun self1 x0=>
  bif decide (x0<(a0.2.2.2.2.2.2.2.2.2.2.2.2.2.2.length:Int)) then
   bnd a0.2.2.2.2.2.2.2.2.2.2.2.2.2.2.length x0 fun n2=>
   Option.bind a0.2.2.2.2.2.2.2.2.2.2.2.2.2.2[n2]? fun y3=>
   bif decide (y3.1=a1) then
    some (Sum.inr x0)
   else self1 (IntKind.wrap .i64 (x0+(1:Int)))
  else some (Sum.inl ())) (0:Int):Option ((Unit) ⊕ (Int))) fun y=>match y with
 | .inl x4=>
  some ((-1:Int),())
 | .inr x4=>
  some (x4,()):=by kernel_rfl
def c_sl05SameEdges:TC:=
 (.seq (.rg [o1 4 (.lit [.b] [.bool false])])
 (.seq (.seq (.rg [oc 6 0,
 o1 7 (.len 6),
 oc 8 1,
 o1 9 (.len 8),
 o1 10 (.data (.bin .neq) [.t 7,.t 9])])
 (.cond (.t 10)
 (.seq (.rg [o1 4 (.lit [.b] [.bool false])])
 .ret)
 .skip))
 (.seq (.join [] 67106864 (some [⟨4,[.b],false⟩]) (.seq (.rg [o1 5 (kL 0)])
 (.block 0 (.loop [⟨5,[.i .i64],false⟩] 67106864
 (.seq (.seq (.rg [oc 11 5,
 oc 12 0,
 o1 13 (.len 12),
 o1 14 (.data (.bin .lss) [.t 11,.t 13])])
 (.cond (.t 14)
 .skip
 (.exit 0)))
 (.seq (.block 1 (.seq (.rg [oc 17 0,
 oc 18 5,
 o1 19 (.index 17 (.t 18)),
 o1 20 (.load 17 [(0,2)] 0 (.t 19) 2 false),
 oc 21 1,
 oc 22 5,
 o1 23 (.index 21 (.t 22)),
 o1 24 (.load 21 [(0,2)] 0 (.t 23) 2 false),
 o1 25 (.eqA [.i,.i] (.t 20) (.t 24) true)])
 (.cond (.t 25)
 (.seq (.rg [o1 4 (.lit [.b] [.bool false])])
 .ret)
 .skip)))
 (.rg [oc 15 5,
 o1 16 (.data (.bin .add) [.t 15,kD 1]),
 oc 5 16])))))))
 (.seq (.rg [o1 4 (.lit [.b] [.bool true])])
 .ret))))
def s_sl05SameEdges:Sig:=⟨[.rd false Ct8,.rd false Ct8],(.one false [.d])⟩
def E_sl05SameEdges:TEnv:=envOf []
def f_sl05SameEdges (n:Nat):(List (Int × Int)) × (List (Int × Int))->Option ((Bool) × Unit):=runFn n E_sl05SameEdges c_sl05SameEdges [[.sl [.i .i64,.i .i64]],[.sl [.i .i64,.i .i64]]] [.b] [] [4] .no
def g_sl05SameEdges:=f_sl05SameEdges BIG
def p_sl05SameEdges:TSp:=⟨s_sl05SameEdges,[[.sl [.i .i64,.i .i64]],[.sl [.i .i64,.i .i64]]],[.b],[],Ou.j .no,g_sl05SameEdges⟩
theorem k_sl05SameEdges:chkW PG E_sl05SameEdges 118 s_sl05SameEdges (c_sl05SameEdges.ht 26) .no=some (c_sl05SameEdges.wc E_sl05SameEdges,[4]):=by kernel_rfl
theorem ok_sl05SameEdges:p_sl05SameEdges.Ok PG 118:=mkOk (env_nil PG) k_sl05SameEdges (by kernel_rfl)
theorem e_sl05SameEdges (n) (a0) (a1):f_sl05SameEdges n (a0,a1) =
 bif !decide ((a0.length:Int)=(a1.length:Int)) then
  some (false,())
 else Option.bind (loopT n (X:=Int) (B:=(Unit) ⊕ (Bool)) (fun self1 x0=>
  bif decide (x0<(a0.length:Int)) then
   bnd a0.length x0 fun n2=>
   Option.bind a0[n2]? fun y3=>
   bnd a1.length x0 fun n4=>
   Option.bind a1[n4]? fun y5=>
   bif !(decide (y3.1=y5.1)&&(decide (y3.2=y5.2)&&true)) then
    some (Sum.inr false)
   else self1 (IntKind.wrap .i64 (x0+(1:Int)))
  else some (Sum.inl ())) (0:Int):Option ((Unit) ⊕ (Bool))) fun y=>match y with
 | .inl x6=>
  some (true,())
 | .inr x6=>
  some (x6,()):=by kernel_rfl
def c_sl09SameOrder:TC:=
 (.seq (.rg [o1 2 (.a (.t 0)),
 o1 3 (.a (.t 1)),
 o1 4 (.lit [.b] [.bool false])])
 (.seq (.join [⟨4,[.b],false⟩] 2147483632 none (.rg [oi 5,
 o1 6 (.load 2 [] 0 (.t 5) 1 false),
 oi 7,
 o1 8 (.load 3 [] 0 (.t 7) 1 false),
 o1 9 (.data (.bin .eql) [.t 6,.t 8]),
 oc 10 9,
 o2 11 (.idx .nil) 5 true,
 o2 12 (.load 2 [] 1 (.t 11) 1 false) 5 true,
 o2 13 (.idx .nil) 5 true,
 o2 14 (.load 3 [] 1 (.t 13) 1 false) 5 true,
 o2 15 (.data (.bin .eql) [.t 12,.t 14]) 5 true,
 o7 10 (.t 15) (.c (.bool false)) 16,
 oc 17 16,
 o2 18 (.idx .nil) 12 true,
 o2 19 (.load 2 [] 3 (.t 18) 1 false) 12 true,
 o2 20 (.idx .nil) 12 true,
 o2 21 (.load 3 [] 3 (.t 20) 1 false) 12 true,
 o2 22 (.data (.bin .eql) [.t 19,.t 21]) 12 true,
 o7 17 (.t 22) (.c (.bool false)) 23,
 oc 24 23,
 o2 25 (.idx .nil) 19 true,
 o2 26 (.load 2 [] 2 (.t 25) 1 false) 19 true,
 o2 27 (.idx .nil) 19 true,
 o2 28 (.load 3 [] 2 (.t 27) 1 false) 19 true,
 ⟨false,[],[],.call 1 118 [.t 26,.t 28] .no,[29],(some 29),some (19,true)⟩,
 o7 24 (.t 29) (.c (.bool false)) 30,
 oc 4 30]))
 .ret))
def s_sl09SameOrder:Sig:=⟨[.rd true Ct7,.rd true Ct7],(.one false [.d])⟩
def E_sl09SameOrder:TEnv:=envOf [(118,p_sl05SameEdges)]
def f_sl09SameOrder (n:Nat):(Int × Int × List (Int × Int) × Int) × (Int × Int × List (Int × Int) × Int)->Option ((Bool) × Unit):=runFn n E_sl09SameOrder c_sl09SameOrder [Ty10,Ty10] [.b] [] [4] .no
def g_sl09SameOrder:=f_sl09SameOrder BIG
def p_sl09SameOrder:TSp:=⟨s_sl09SameOrder,[Ty10,Ty10],[.b],[],Ou.j .no,g_sl09SameOrder⟩
theorem k_sl09SameOrder:chkW PG E_sl09SameOrder 117 s_sl09SameOrder (c_sl09SameOrder.ht 31) .no=some (c_sl09SameOrder.wc E_sl09SameOrder,[4]):=by kernel_rfl
theorem ok_sl09SameOrder:p_sl09SameOrder.Ok PG 117:=mkOk (env_cons ok_sl05SameEdges (env_nil PG)) k_sl09SameOrder (by kernel_rfl)
theorem e_sl09SameOrder (n) (a0) (a1):f_sl09SameOrder n (a0,a1) =
 Option.bind (bif decide (a0.1=a1.1) then
 bif decide (a0.2.1=a1.2.1) then
 bif decide (a0.2.2.2=a1.2.2.2) then
 Option.bind (g_sl05SameEdges (a0.2.2.1,a1.2.2.1)) fun r0=>
 some r0.1
 else some false
 else some false
 else some false:Option (Bool)) fun x1=>
 some (x1,()):=by kernel_rfl
def c_sl12BlankTask:TC:=
 (.seq (.rg [o1 1 (.a (.t 0)),
 o1 2 (.lit [.b] [.bool false])])
 (.seq (.join [⟨2,[.b],false⟩] 262140 none (.rg [oi 3,
 o1 4 (.load 1 [] 0 (.t 3) 4 false),
 o1 5 (.build Ty11 []),
 o1 6 (.eqA [.i,.i,.i,.i] (.t 4) (.t 5) false),
 oc 7 6,
 o2 8 (.idx .nil) 4 true,
 o2 9 (.load 1 [] 4 (.t 8) 1 false) 4 true,
 o2 10 (.data (.bin .eql) [.t 9,kD 0]) 4 true,
 o7 7 (.t 10) (.c (.bool false)) 11,
 oc 12 11,
 o2 13 (.idx .nil) 9 true,
 o2 14 (.load 1 [] 5 (.t 13) 4 false) 9 true,
 o2 15 (.build Ty10 []) 9 true,
 ⟨false,[],[],.call 1 117 [.t 14,.t 15] .no,[16],(some 16),some (9,true)⟩,
 o7 12 (.t 16) (.c (.bool false)) 17,
 oc 2 17]))
 .ret))
def s_sl12BlankTask:Sig:=⟨[.rd true Ct5],(.one false [.d])⟩
def E_sl12BlankTask:TEnv:=envOf [(117,p_sl09SameOrder)]
def f_sl12BlankTask (n:Nat):(Int × Int × Int × Int × Int × Int × Int × List (Int × Int) × Int)->Option ((Bool) × Unit):=runFn n E_sl12BlankTask c_sl12BlankTask [Ty5] [.b] [] [2] .no
def g_sl12BlankTask:=f_sl12BlankTask BIG
def p_sl12BlankTask:TSp:=⟨s_sl12BlankTask,[Ty5],[.b],[],Ou.j .no,g_sl12BlankTask⟩
theorem k_sl12BlankTask:chkW PG E_sl12BlankTask 108 s_sl12BlankTask (c_sl12BlankTask.ht 18) .no=some (c_sl12BlankTask.wc E_sl12BlankTask,[2]):=by kernel_rfl
theorem ok_sl12BlankTask:p_sl12BlankTask.Ok PG 108:=mkOk (env_cons ok_sl09SameOrder (env_nil PG)) k_sl12BlankTask (by kernel_rfl)
theorem e_sl12BlankTask (n) (a0):f_sl12BlankTask n a0 =
 Option.bind (bif (decide (a0.1=(0:Int))&&(decide (a0.2.1=(0:Int))&&(decide (a0.2.2.1=(0:Int))&&(decide (a0.2.2.2.1=(0:Int))&&true)))) then
 bif decide (a0.2.2.2.2.1=(0:Int)) then
 Option.bind (g_sl09SameOrder (a0.2.2.2.2.2,((0:Int),(0:Int),[],(0:Int)))) fun r0=>
 some r0.1
 else some false
 else some false:Option (Bool)) fun x1=>
 some (x1,()):=by kernel_rfl
def c_sOrderOk:TC:=
 (.seq (.rg [o1 3 (.a (.t 1)),
 o1 4 (.lit [.b] [.bool false])])
 (.seq (.seq (.join [⟨26,[.b],false⟩] 134217696 none (.rg [oc 5 0,
 o3 6 50 [.t 5,kO 1,kO 12],
 o1 7 (.data .not [.t 6]),
 oc 8 7,
 o2 9 (.idx .nil) 3 false,
 o2 10 (.load 3 [] 0 (.t 9) 1 false) 3 false,
 ⟨false,[],[],.call 1 50 [.t 10,kO 1,kO 100000] .no,[11],(some 11),some (3,false)⟩,
 o2 12 (.data .not [.t 11]) 3 false,
 o7 8 (.c (.bool true)) (.t 12) 13,
 oc 14 13,
 o2 15 (.idx .nil) 9 false,
 o2 16 (.load 3 [] 1 (.t 15) 1 false) 9 false,
 ⟨false,[],[],.call 1 50 [.t 16,kO 1,kO 4] .no,[17],(some 17),some (9,false)⟩,
 o2 18 (.data .not [.t 17]) 9 false,
 o7 14 (.c (.bool true)) (.t 18) 19,
 oc 20 19,
 o2 21 (.copy 0) 15 false,
 o2 22 (.idx .nil) 15 false,
 o2 23 (.load 3 [] 2 (.t 22) 1 false) 15 false,
 ⟨false,[],[],.call 1 82 [.t 21,.t 23] .no,[24],(some 24),some (15,false)⟩,
 o2 25 (.data .not [.t 24]) 15 false,
 o7 20 (.c (.bool true)) (.t 25) 26]))
 (.cond (.t 26)
 (.seq (.rg [o1 4 (.lit [.b] [.bool false])])
 .ret)
 .skip))
 (.seq (.seq (.rg [oi 27,
 o1 28 (.load 3 [] 1 (.t 27) 1 false)])
 (.block 0 (.seq (.rg [o1 30 (.data (.bin .eql) [.t 28,kD 3]),
 oc 29 30])
 (.cond (.t 29)
 (.seq (.join [⟨4,[.b],false⟩] 4395899027472 none (.rg [oi 31,
 o1 32 (.load 3 [] 2 (.t 31) 1 false),
 o1 33 (.len 32),
 o1 34 (.data (.bin .eql) [.t 33,kD 0]),
 oc 35 34,
 o2 36 (.idx .nil) 4 true,
 o2 37 (.load 3 [] 3 (.t 36) 1 false) 4 true,
 o2 38 (.copy 0) 4 true,
 o2 39 (.data (.bin .sub) [.t 38,kD 1]) 4 true,
 ⟨false,[],[],.call 1 50 [.t 37,kO 0,.t 39] .no,[40],(some 40),some (4,true)⟩,
 o7 35 (.t 40) (.c (.bool false)) 41,
 oc 4 41]))
 .ret)
 (.seq (.rg [o1 43 (.data (.bin .eql) [.t 28,kD 4]),
 oc 42 43])
 (.cond (.t 42)
 (.seq (.join [⟨4,[.b],false⟩] 8989607068696592 none (.rg [oi 44,
 o1 45 (.load 3 [] 2 (.t 44) 1 false),
 o1 46 (.len 45),
 o1 47 (.data (.bin .gtr) [.t 46,kD 0]),
 oc 48 47,
 o2 49 (.idx .nil) 4 true,
 o2 50 (.load 3 [] 3 (.t 49) 1 false) 4 true,
 o2 51 (.data (.bin .eql) [.t 50,kD 0]) 4 true,
 o7 48 (.t 51) (.c (.bool false)) 52,
 oc 4 52]))
 .ret)
 .skip))))))
 (.seq (.join [⟨4,[.b],false⟩] 4602678819172646928 none (.rg [oi 53,
 o1 54 (.load 3 [] 2 (.t 53) 1 false),
 o1 55 (.len 54),
 o1 56 (.data (.bin .eql) [.t 55,kD 1]),
 oc 57 56,
 o2 58 (.idx .nil) 4 true,
 o2 59 (.load 3 [] 3 (.t 58) 1 false) 4 true,
 o2 60 (.data (.bin .eql) [.t 59,kD 0]) 4 true,
 o7 57 (.t 60) (.c (.bool false)) 61,
 oc 4 61]))
 .ret))))
def s_sOrderOk:Sig:=⟨[.rd false [.d],.rd true Ct7],(.one false [.d])⟩
def E_sOrderOk:TEnv:=envOf [(50,p_sl01In),(82,p_sl05Edges)]
def f_sOrderOk (n:Nat):Int × (Int × Int × List (Int × Int) × Int)->Option ((Bool) × Unit):=runFn n E_sOrderOk c_sOrderOk [[.i .i64],Ty10] [.b] [] [4] .no
def g_sOrderOk:=f_sOrderOk BIG
def p_sOrderOk:TSp:=⟨s_sOrderOk,[[.i .i64],Ty10],[.b],[],Ou.j .no,g_sOrderOk⟩
theorem k_sOrderOk:chkW PG E_sOrderOk 109 s_sOrderOk (c_sOrderOk.ht 62) .no=some (c_sOrderOk.wc E_sOrderOk,[4]):=by kernel_rfl
theorem ok_sOrderOk:p_sOrderOk.Ok PG 109:=mkOk (env_cons ok_sl01In (env_cons ok_sl05Edges (env_nil PG))) k_sOrderOk (by kernel_rfl)
theorem e_sOrderOk (n) (a0) (a1):f_sOrderOk n (a0,a1) =
 Option.bind (Option.bind (g_sl01In (a0,(1:Int),(12:Int))) fun r0=>
 bif !r0.1 then
 some true
 else Option.bind (g_sl01In (a1.1,(1:Int),(100000:Int))) fun r1=>
 bif !r1.1 then
 some true
 else Option.bind (g_sl01In (a1.2.1,(1:Int),(4:Int))) fun r2=>
 bif !r2.1 then
 some true
 else Option.bind (g_sl05Edges (a0,a1.2.2.1)) fun r3=>
 some !r3.1:Option (Bool)) fun x4=>
 bif x4 then
 some (false,())
 else bif decide (a1.2.1=(3:Int)) then
 Option.bind (bif decide ((a1.2.2.1.length:Int)=(0:Int)) then
 Option.bind (g_sl01In (a1.2.2.2,(0:Int),IntKind.wrap .i64 (a0-(1:Int)))) fun r5=>
 some r5.1
 else some false:Option (Bool)) fun x6=>
 some (x6,())
 else bif decide (a1.2.1=(4:Int)) then
 Option.bind (bif decide ((0:Int)<(a1.2.2.1.length:Int)) then
 some (decide (a1.2.2.2=(0:Int)))
 else some false:Option (Bool)) fun x7=>
 some (x7,())
 else Option.bind (bif decide ((a1.2.2.1.length:Int)=(1:Int)) then
 some (decide (a1.2.2.2=(0:Int)))
 else some false:Option (Bool)) fun x8=>
 some (x8,()):=by kernel_rfl
def c_sl12Right:TC:=
 (.seq (.rg [o1 2 (.a (.t 0)),
 o1 3 (.a (.t 1)),
 o1 4 (.lit [.b] [.bool false])])
 (.seq (.seq (.join [⟨17,[.b],false⟩] 262112 none (.rg [oi 5,
 o1 6 (.load 3 [] 1 (.t 5) 1 false),
 o3 7 50 [.t 6,kO 1,kO 4],
 o1 8 (.data .not [.t 7]),
 oc 9 8,
 o2 10 (.idx .nil) 4 false,
 o2 11 (.load 3 [] 2 (.t 10) 1 false) 4 false,
 o2 12 (.idx .nil) 4 false,
 o2 13 (.load 2 [] 0 (.t 12) 1 false) 4 false,
 o2 14 (.data (.bin .sub) [.t 13,kD 1]) 4 false,
 ⟨false,[],[],.call 1 50 [.t 11,kO 0,.t 14] .no,[15],(some 15),some (4,false)⟩,
 o2 16 (.data .not [.t 15]) 4 false,
 o7 9 (.c (.bool true)) (.t 16) 17]))
 (.cond (.t 17)
 (.seq (.rg [o1 4 (.lit [.b] [.bool false])])
 .ret)
 .skip))
 (.seq (.seq (.rg [oi 18,
 o1 19 (.load 3 [] 1 (.t 18) 1 false)])
 (.block 0 (.seq (.rg [o1 21 (.data (.bin .eql) [.t 19,kD 4]),
 oc 20 21])
 (.cond (.t 20)
 (.seq (.rg [oi 22,
 o1 23 (.load 3 [] 3 (.t 22) 1 false),
 oi 24,
 o1 25 (.load 2 [] 3 (.t 24) 1 false),
 o1 26 (.len 25),
 o3 27 50 [.t 23,kO 1,.t 26],
 oc 4 27])
 .ret)
 (.seq (.rg [o1 29 (.data (.bin .eql) [.t 19,kD 3]),
 oc 28 29])
 (.cond (.t 28)
 (.seq (.rg [oi 30,
 o1 31 (.load 3 [] 3 (.t 30) 1 false),
 oi 32,
 o1 33 (.load 2 [] 0 (.t 32) 1 false),
 o1 34 (.data (.bin .sub) [.t 33,kD 1]),
 o3 35 50 [.t 31,kO 0,.t 34],
 oc 4 35])
 .ret)
 .skip))))))
 (.seq (.join [⟨4,[.b],false⟩] 562881233944592 none (.rg [oi 36,
 o1 37 (.load 3 [] 3 (.t 36) 1 false),
 oi 38,
 o1 39 (.load 2 [] 0 (.t 38) 1 false),
 o1 40 (.data (.bin .sub) [.t 39,kD 1]),
 o3 41 50 [.t 37,kO 0,.t 40],
 oc 42 41,
 o2 43 (.idx .nil) 6 true,
 o2 44 (.load 3 [] 2 (.t 43) 1 false) 6 true,
 o2 45 (.idx .nil) 6 true,
 o2 46 (.load 3 [] 3 (.t 45) 1 false) 6 true,
 o2 47 (.data (.bin .neq) [.t 44,.t 46]) 6 true,
 o7 42 (.t 47) (.c (.bool false)) 48,
 oc 4 48]))
 .ret))))
def s_sl12Right:Sig:=⟨[.rd true Ct1,.rd true [.d,.d,.d,.d]],(.one false [.d])⟩
def E_sl12Right:TEnv:=envOf [(50,p_sl01In)]
def f_sl12Right (n:Nat):(Int × List (Int) × List (Int × Int) × List (List (Int)) × List (Int) × Int × Int × Int × Int × Int × Int × Int × List (Int × Int) × Int × List (Int × Int × Int × Int × Int × Int)) × (Int × Int × Int × Int)->Option ((Bool) × Unit):=runFn n E_sl12Right c_sl12Right [Ty2,Ty11] [.b] [] [4] .no
def g_sl12Right:=f_sl12Right BIG
def p_sl12Right:TSp:=⟨s_sl12Right,[Ty2,Ty11],[.b],[],Ou.j .no,g_sl12Right⟩
theorem k_sl12Right:chkW PG E_sl12Right 55 s_sl12Right (c_sl12Right.ht 49) .no=some (c_sl12Right.wc E_sl12Right,[4]):=by kernel_rfl
theorem ok_sl12Right:p_sl12Right.Ok PG 55:=mkOk (env_cons ok_sl01In (env_nil PG)) k_sl12Right (by kernel_rfl)
theorem e_sl12Right (n) (a0) (a1):f_sl12Right n (a0,a1) =
 Option.bind (Option.bind (g_sl01In (a1.2.1,(1:Int),(4:Int))) fun r0=>
 bif !r0.1 then
 some true
 else Option.bind (g_sl01In (a1.2.2.1,(0:Int),IntKind.wrap .i64 (a0.1-(1:Int)))) fun r1=>
 some !r1.1:Option (Bool)) fun x2=>
 bif x2 then
 some (false,())
 else bif decide (a1.2.1=(4:Int)) then
 Option.bind (g_sl01In (a1.2.2.2,(1:Int),(a0.2.2.2.1.length:Int))) fun r3=>
 some (r3.1,())
 else bif decide (a1.2.1=(3:Int)) then
 Option.bind (g_sl01In (a1.2.2.2,(0:Int),IntKind.wrap .i64 (a0.1-(1:Int)))) fun r4=>
 some (r4.1,())
 else Option.bind (Option.bind (g_sl01In (a1.2.2.2,(0:Int),IntKind.wrap .i64 (a0.1-(1:Int)))) fun r5=>
 bif r5.1 then
 some (!decide (a1.2.2.1=a1.2.2.2))
 else some false:Option (Bool)) fun x6=>
 some (x6,()):=by kernel_rfl
def c_sl12TaskOk:TC:=
 (.seq (.rg [o1 1 (.a (.t 0)),
 o1 2 (.lit [.b] [.bool false])])
 (.seq (.rg [oi 4,
 o1 5 (.load 1 [] 5 (.t 4) 9 false),
 o5 (.a (.c Ty5 [kV 0,kV 0,kV 0,kV 0,kV 0,kV 0,kV 0,.slice none 0 0,kV 0])) 3 1000000001,
 o4 1 [3] (.store 3 [] 0 .nil (.t 5))])
 (.seq (.seq (.rg [o1 6 (.load 3 [] 0 .nil 9 false),
 o3 7 108 [.t 6]])
 (.cond (.t 7)
 (.seq (.rg [o1 2 (.lit [.b] [.bool true])])
 .ret)
 .skip))
 (.seq (.join [⟨2,[.b],false⟩] 2305843009213693700 none (.rg [oi 8,
 o1 9 (.load 3 [] 4 (.t 8) 1 false),
 oi 10,
 o1 11 (.load 1 [] 3 (.t 10) 1 false),
 o1 12 (.len 11),
 o3 13 50 [.t 9,kO 1,.t 12],
 oc 14 13,
 o2 15 (.idx .nil) 6 true,
 o2 16 (.load 1 [] 0 (.t 15) 1 false) 6 true,
 o2 17 (.idx .nil) 6 true,
 o2 18 (.load 3 [] 5 (.t 17) 4 false) 6 true,
 ⟨false,[],[],.call 1 109 [.t 16,.t 18] .no,[19],(some 19),some (6,true)⟩,
 o7 14 (.t 19) (.c (.bool false)) 20,
 oc 21 20,
 o2 22 (.idx .nil) 13 true,
 o2 23 (.idx (.t 22)) 13 true,
 o2 24 (.load 3 [] 5 (.t 23) 1 false) 13 true,
 o2 25 (.idx .nil) 13 true,
 o2 26 (.load 1 [] 4 (.t 25) 1 false) 13 true,
 o2 27 (.idx .nil) 13 true,
 o2 28 (.load 3 [] 4 (.t 27) 1 false) 13 true,
 o2 29 (.data (.bin .sub) [.t 28,kD 1]) 13 true,
 o2 30 (.index 26 (.t 29)) 13 true,
 o2 31 (.load 26 [(0,1)] 0 (.t 30) 1 false) 13 true,
 o2 32 (.data (.bin .add) [.t 31,kD 1]) 13 true,
 o2 33 (.data (.bin .eql) [.t 24,.t 32]) 13 true,
 o7 21 (.t 33) (.c (.bool false)) 34,
 oc 35 34,
 o2 36 (.load 1 [] 0 .nil 15 false) 27 true,
 o2 37 (.idx .nil) 27 true,
 o2 38 (.idx (.t 37)) 27 true,
 o2 39 (.load 3 [] 0 (.t 38) 1 false) 27 true,
 ⟨false,[],[],.call 1 53 [.t 36,.t 39] .no,[40],(some 40),some (27,true)⟩,
 o2 41 (.data (.bin .lss) [.t 40,kD 0]) 27 true,
 o7 35 (.t 41) (.c (.bool false)) 42,
 oc 43 42,
 o2 44 (.load 1 [] 0 .nil 15 false) 35 true,
 o2 45 (.idx .nil) 35 true,
 o2 46 (.load 3 [] 0 (.t 45) 4 false) 35 true,
 ⟨false,[],[],.call 1 55 [.t 44,.t 46] .no,[47],(some 47),some (35,true)⟩,
 o7 43 (.t 47) (.c (.bool false)) 48,
 oc 49 48,
 o2 50 (.idx .nil) 41 true,
 o2 51 (.idx (.t 50)) 41 true,
 o2 52 (.load 3 [] 1 (.t 51) 1 false) 41 true,
 o2 53 (.data (.bin .neq) [.t 52,kD 3]) 41 true,
 o7 49 (.t 53) (.c (.bool false)) 54,
 oc 55 54,
 o2 56 (.idx .nil) 47 true,
 o2 57 (.idx (.t 56)) 47 true,
 o2 58 (.load 3 [] 0 (.t 57) 1 false) 47 true,
 ⟨false,[],[],.call 1 50 [.t 58,kO 1,kO 100000] .no,[59],(some 59),some (47,true)⟩,
 o7 55 (.t 59) (.c (.bool false)) 60,
 oc 2 60]))
 .ret))))
def s_sl12TaskOk:Sig:=⟨[.rd true Ct1],(.one false [.d])⟩
def E_sl12TaskOk:TEnv:=envOf [(108,p_sl12BlankTask),(50,p_sl01In),(109,p_sOrderOk),(53,p_sl12Said),(55,p_sl12Right)]
def f_sl12TaskOk (n:Nat):(Int × List (Int) × List (Int × Int) × List (List (Int)) × List (Int) × Int × Int × Int × Int × Int × Int × Int × List (Int × Int) × Int × List (Int × Int × Int × Int × Int × Int))->Option ((Bool) × Unit):=runFn n E_sl12TaskOk c_sl12TaskOk [Ty2] [.b] [] [2] .no
def g_sl12TaskOk:=f_sl12TaskOk BIG
def p_sl12TaskOk:TSp:=⟨s_sl12TaskOk,[Ty2],[.b],[],Ou.j .no,g_sl12TaskOk⟩
theorem k_sl12TaskOk:chkW PG E_sl12TaskOk 84 s_sl12TaskOk (c_sl12TaskOk.ht 61) .no=some (c_sl12TaskOk.wc E_sl12TaskOk,[2]):=by kernel_rfl
theorem ok_sl12TaskOk:p_sl12TaskOk.Ok PG 84:=mkOk (env_cons ok_sl12BlankTask (env_cons ok_sl01In (env_cons ok_sOrderOk (env_cons ok_sl12Said (env_cons ok_sl12Right (env_nil PG)))))) k_sl12TaskOk (by kernel_rfl)
theorem e_sl12TaskOk (n) (a0):f_sl12TaskOk n a0 =
 Option.bind (g_sl12BlankTask (a0.2.2.2.2.2.1,a0.2.2.2.2.2.2.1,a0.2.2.2.2.2.2.2.1,a0.2.2.2.2.2.2.2.2.1,a0.2.2.2.2.2.2.2.2.2.1,a0.2.2.2.2.2.2.2.2.2.2.1,a0.2.2.2.2.2.2.2.2.2.2.2.1,a0.2.2.2.2.2.2.2.2.2.2.2.2.1,a0.2.2.2.2.2.2.2.2.2.2.2.2.2.1)) fun r0=>
 bif r0.1 then
 some (true,())
 else Option.bind (Option.bind (g_sl01In (a0.2.2.2.2.2.2.2.2.2.1,(1:Int),(a0.2.2.2.1.length:Int))) fun r1=>
 bif r1.1 then
 Option.bind (g_sOrderOk (a0.1,(a0.2.2.2.2.2.2.2.2.2.2.1,a0.2.2.2.2.2.2.2.2.2.2.2.1,a0.2.2.2.2.2.2.2.2.2.2.2.2.1,a0.2.2.2.2.2.2.2.2.2.2.2.2.2.1))) fun r2=>
 bif r2.1 then
 bnd a0.2.2.2.2.1.length (IntKind.wrap .i64 (a0.2.2.2.2.2.2.2.2.2.1-(1:Int))) fun n3=>
 Option.bind a0.2.2.2.2.1[n3]? fun y4=>
 bif decide (a0.2.2.2.2.2.2.2.2.2.2.1=(IntKind.wrap .i64 (y4+(1:Int)))) then
 Option.bind (g_sl12Said (a0,a0.2.2.2.2.2.1)) fun r5=>
 bif decide (r5.1<(0:Int)) then
 Option.bind (g_sl12Right (a0,(a0.2.2.2.2.2.1,a0.2.2.2.2.2.2.1,a0.2.2.2.2.2.2.2.1,a0.2.2.2.2.2.2.2.2.1))) fun r6=>
 bif r6.1 then
 bif !decide (a0.2.2.2.2.2.2.1=(3:Int)) then
 Option.bind (g_sl01In (a0.2.2.2.2.2.1,(1:Int),(100000:Int))) fun r7=>
 some r7.1
 else some false
 else some false
 else some false
 else some false
 else some false
 else some false:Option (Bool)) fun x8=>
 some (x8,()):=by kernel_rfl
def c_sHeadOk:TC:=
 (.seq (.rg [o1 1 (.a (.t 0)),
 o1 2 (.lit [.b] [.bool false])])
 (.seq (.seq (.join [⟨49,[.b],false⟩] 1125899906842368 none (.rg [oi 8,
 o1 9 (.load 1 [] 0 (.t 8) 1 false),
 o3 10 50 [.t 9,kO 1,kO 12],
 o1 11 (.data .not [.t 10]),
 oc 12 11,
 o2 13 (.idx .nil) 4 false,
 o2 14 (.load 1 [] 3 (.t 13) 1 false) 4 false,
 o2 15 (.len 14) 4 false,
 ⟨false,[],[],.call 1 50 [.t 15,kO 1,kO 3] .no,[16],(some 16),some (4,false)⟩,
 o2 17 (.data .not [.t 16]) 4 false,
 o7 12 (.c (.bool true)) (.t 17) 18,
 oc 19 18,
 o2 20 (.idx .nil) 11 false,
 o2 21 (.load 1 [] 4 (.t 20) 1 false) 11 false,
 o2 22 (.len 21) 11 false,
 o2 23 (.idx .nil) 11 false,
 o2 24 (.load 1 [] 3 (.t 23) 1 false) 11 false,
 o2 25 (.len 24) 11 false,
 o2 26 (.data (.bin .neq) [.t 22,.t 25]) 11 false,
 o7 19 (.c (.bool true)) (.t 26) 27,
 oc 28 27,
 o2 29 (.idx .nil) 20 false,
 o2 30 (.load 1 [] 1 (.t 29) 1 false) 20 false,
 o2 31 (.len 30) 20 false,
 o2 32 (.idx .nil) 20 false,
 o2 33 (.load 1 [] 0 (.t 32) 1 false) 20 false,
 o2 34 (.data (.bin .neq) [.t 31,.t 33]) 20 false,
 o7 28 (.c (.bool true)) (.t 34) 35,
 oc 36 35,
 o2 37 (.idx .nil) 28 false,
 o2 38 (.load 1 [] 0 (.t 37) 1 false) 28 false,
 o2 39 (.idx .nil) 28 false,
 o2 40 (.load 1 [] 2 (.t 39) 1 false) 28 false,
 ⟨false,[],[],.call 1 82 [.t 38,.t 40] .no,[41],(some 41),some (28,false)⟩,
 o2 42 (.data .not [.t 41]) 28 false,
 o7 36 (.c (.bool true)) (.t 42) 43,
 oc 44 43,
 o2 45 (.idx .nil) 36 false,
 o2 46 (.load 1 [] 14 (.t 45) 1 false) 36 false,
 o2 47 (.len 46) 36 false,
 o2 48 (.data (.bin .gtr) [.t 47,kD 80]) 36 false,
 o7 44 (.c (.bool true)) (.t 48) 49]))
 (.cond (.t 49)
 (.seq (.rg [o1 2 (.lit [.b] [.bool false])])
 .ret)
 .skip))
 (.seq (.join [] 37778930737057254866956 (some [⟨2,[.b],false⟩]) (.seq (.rg [o1 3 (kL 0)])
 (.block 0 (.loop [⟨3,[.i .i64],false⟩] 37778930737057254866956
 (.seq (.seq (.rg [oc 50 3,
 oi 51,
 o1 52 (.load 1 [] 3 (.t 51) 1 false),
 o1 53 (.len 52),
 o1 54 (.data (.bin .lss) [.t 50,.t 53])])
 (.cond (.t 54)
 .skip
 (.exit 0)))
 (.seq (.join [] 37778787747769085853700 (some [⟨2,[.b],false⟩]) (.block 1 (.seq (.join [⟨74,[.b],false⟩] 37778787747769085853696 none (.rg [oi 57,
 o1 58 (.load 1 [] 0 (.t 57) 1 false),
 oi 59,
 o1 60 (.load 1 [] 3 (.t 59) 1 false),
 oc 61 3,
 o1 62 (.index 60 (.t 61)),
 o1 63 (.load 60 [(0,1)] 0 (.t 62) 1 false),
 o3 64 83 [.t 58,.t 63],
 o1 65 (.data .not [.t 64]),
 oc 66 65,
 o2 67 (.idx .nil) 9 false,
 o2 68 (.load 1 [] 4 (.t 67) 1 false) 9 false,
 o2 69 (.copy 3) 9 false,
 o2 70 (.index 68 (.t 69)) 9 false,
 o2 71 (.load 68 [(0,1)] 0 (.t 70) 1 false) 9 false,
 ⟨false,[],[],.call 1 50 [.t 71,kO 0,kO 99991] .no,[72],(some 72),some (9,false)⟩,
 o2 73 (.data .not [.t 72]) 9 false,
 o7 66 (.c (.bool true)) (.t 73) 74]))
 (.cond (.t 74)
 (.seq (.rg [o1 2 (.lit [.b] [.bool false])])
 .ret)
 .skip))))
 (.rg [oc 55 3,
 o1 56 (.data (.bin .add) [.t 55,kD 1]),
 oc 3 56])))))))
 (.seq (.join [] 2475842299638897592636538900 (some [⟨2,[.b],false⟩]) (.seq (.rg [o1 4 (kL 0)])
 (.block 2 (.loop [⟨4,[.i .i64],false⟩] 2475842299638897592636538900
 (.seq (.seq (.rg [oc 75 4,
 oi 76,
 o1 77 (.load 1 [] 0 (.t 76) 1 false),
 o1 78 (.data (.bin .lss) [.t 75,.t 77])])
 (.cond (.t 78)
 .skip
 (.exit 2)))
 (.seq (.block 3 (.seq (.rg [oi 81,
 o1 82 (.load 1 [] 1 (.t 81) 1 false),
 oc 83 4,
 o1 84 (.index 82 (.t 83)),
 o1 85 (.load 82 [(0,1)] 0 (.t 84) 1 false),
 oi 86,
 o1 87 (.load 1 [] 3 (.t 86) 1 false),
 o1 88 (.len 87),
 o3 89 50 [.t 85,kO 1,.t 88],
 o1 90 (.data .not [.t 89])])
 (.cond (.t 90)
 (.seq (.rg [o1 2 (.lit [.b] [.bool false])])
 .ret)
 .skip)))
 (.rg [oc 79 4,
 o1 80 (.data (.bin .add) [.t 79,kD 1]),
 oc 4 80])))))))
 (.seq (.join [] 664613995416577857881142980341923876 (some [⟨2,[.b],false⟩]) (.seq (.rg [o1 5 (kL 0)])
 (.block 4 (.loop [⟨5,[.i .i64],false⟩] 664613995416577857881142980341923876
 (.seq (.seq (.rg [oc 91 5,
 oi 92,
 o1 93 (.load 1 [] 2 (.t 92) 1 false),
 o1 94 (.len 93),
 o1 95 (.data (.bin .lss) [.t 91,.t 94])])
 (.cond (.t 95)
 .skip
 (.exit 4)))
 (.seq (.block 5 (.seq (.rg [oi 98,
 o1 99 (.load 1 [] 1 (.t 98) 1 false),
 oi 100,
 o1 101 (.load 1 [] 2 (.t 100) 1 false),
 oc 102 5,
 o1 103 (.index 101 (.t 102)),
 o1 104 (.idx (.t 103)),
 o1 105 (.load 101 [(0,2)] 0 (.t 104) 1 false),
 o1 106 (.index 99 (.t 105)),
 o1 107 (.load 99 [(0,1)] 0 (.t 106) 1 false),
 oi 108,
 o1 109 (.load 1 [] 1 (.t 108) 1 false),
 oi 110,
 o1 111 (.load 1 [] 2 (.t 110) 1 false),
 oc 112 5,
 o1 113 (.index 111 (.t 112)),
 o1 114 (.idx (.t 113)),
 o1 115 (.load 111 [(0,2)] 1 (.t 114) 1 false),
 o1 116 (.index 109 (.t 115)),
 o1 117 (.load 109 [(0,1)] 0 (.t 116) 1 false),
 o1 118 (.data (.bin .eql) [.t 107,.t 117])])
 (.cond (.t 118)
 (.seq (.rg [o1 2 (.lit [.b] [.bool false])])
 .ret)
 .skip)))
 (.rg [oc 96 5,
 o1 97 (.data (.bin .add) [.t 96,kD 1]),
 oc 5 97])))))))
 (.seq (.join [] 2854495384747305764224114002447086742625321156 (some [⟨2,[.b],false⟩]) (.seq (.rg [o1 6 (kL 0)])
 (.block 6 (.loop [⟨6,[.i .i64],false⟩] 2854495384747305764224114002447086742625321156
 (.seq (.seq (.rg [oc 119 6,
 oi 120,
 o1 121 (.load 1 [] 14 (.t 120) 1 false),
 o1 122 (.len 121),
 o1 123 (.data (.bin .lss) [.t 119,.t 122])])
 (.cond (.t 123)
 .skip
 (.exit 6)))
 (.seq (.join [] 2854495300341328031881956073055338414823440516 (some [⟨2,[.b],false⟩]) (.block 7 (.seq (.rg [oi 126,
 o1 127 (.load 1 [] 14 (.t 126) 1 false),
 oc 128 6,
 o1 129 (.index 127 (.t 128)),
 o1 130 (.load 127 [(0,6)] 0 (.t 129) 6 false),
 o5 (.a (.c Ty8 [kV 0,kV 0,kV 0,kV 0,kV 0,kV 0])) 7 1000000001,
 o4 1 [7] (.store 7 [] 0 .nil (.t 130))])
 (.seq (.join [⟨150,[.b],false⟩] 2854492663152984394608864231902130818619801600 none (.rg [oi 131,
 o1 132 (.load 7 [] 0 (.t 131) 1 false),
 oi 133,
 o1 134 (.idx (.t 133)),
 o1 135 (.load 7 [] 1 (.t 134) 1 false),
 o1 136 (.data (.bin .neq) [.t 132,.t 135]),
 oc 137 136,
 o2 138 (.idx .nil) 6 false,
 o2 139 (.load 7 [] 5 (.t 138) 1 false) 6 false,
 ⟨false,[],[],.call 1 50 [.t 139,kO 1,kO 3] .no,[140],(some 140),some (6,false)⟩,
 o2 141 (.data .not [.t 140]) 6 false,
 o7 137 (.c (.bool true)) (.t 141) 142,
 oc 143 142,
 o2 144 (.load 1 [] 0 .nil 15 false) 12 false,
 o2 145 (.idx .nil) 12 false,
 o2 146 (.load 7 [] 0 (.t 145) 1 false) 12 false,
 ⟨false,[],[],.call 1 53 [.t 144,.t 146] .no,[147],(some 147),some (12,false)⟩,
 o2 148 (.copy 6) 12 false,
 o2 149 (.data (.bin .neq) [.t 147,.t 148]) 12 false,
 o7 143 (.c (.bool true)) (.t 149) 150]))
 (.cond (.t 150)
 (.seq (.rg [o1 2 (.lit [.b] [.bool false])])
 .ret)
 .skip)))))
 (.rg [oc 124 6,
 o1 125 (.data (.bin .add) [.t 124,kD 1]),
 oc 6 125])))))))
 (.seq (.rg [o1 151 (.load 1 [] 0 .nil 15 false),
 o3 152 84 [.t 151],
 oc 2 152])
 .ret)))))))
def s_sHeadOk:Sig:=⟨[.rd true Ct1],(.one false [.d])⟩
def E_sHeadOk:TEnv:=envOf [(50,p_sl01In),(82,p_sl05Edges),(83,p_sl09Labels),(53,p_sl12Said),(84,p_sl12TaskOk)]
def f_sHeadOk (n:Nat):(Int × List (Int) × List (Int × Int) × List (List (Int)) × List (Int) × Int × Int × Int × Int × Int × Int × Int × List (Int × Int) × Int × List (Int × Int × Int × Int × Int × Int))->Option ((Bool) × Unit):=runFn n E_sHeadOk c_sHeadOk [Ty2] [.b] [] [2] .no
def g_sHeadOk:=f_sHeadOk BIG
def p_sHeadOk:TSp:=⟨s_sHeadOk,[Ty2],[.b],[],Ou.j .no,g_sHeadOk⟩
theorem k_sHeadOk:chkW PG E_sHeadOk 52 s_sHeadOk (c_sHeadOk.ht 153) .no=some (c_sHeadOk.wc E_sHeadOk,[2]):=by kernel_rfl
theorem ok_sHeadOk:p_sHeadOk.Ok PG 52:=mkOk (env_cons ok_sl01In (env_cons ok_sl05Edges (env_cons ok_sl09Labels (env_cons ok_sl12Said (env_cons ok_sl12TaskOk (env_nil PG)))))) k_sHeadOk (by kernel_rfl)
theorem e_sHeadOk (n) (a0):f_sHeadOk n a0 =
 Option.bind (Option.bind (g_sl01In (a0.1,(1:Int),(12:Int))) fun r0=>
  bif !r0.1 then
   some true
  else Option.bind (g_sl01In ((a0.2.2.2.1.length:Int),(1:Int),(3:Int))) fun r1=>
  bif !r1.1 then
   some true
  else bif !decide ((a0.2.2.2.2.1.length:Int)=(a0.2.2.2.1.length:Int)) then
   some true
  else bif !decide ((a0.2.1.length:Int)=a0.1) then
   some true
  else Option.bind (g_sl05Edges (a0.1,a0.2.2.1)) fun r2=>
  bif !r2.1 then
   some true
  else some (decide ((80:Int)<(a0.2.2.2.2.2.2.2.2.2.2.2.2.2.2.length:Int))):Option (Bool)) fun x3=>
 bif x3 then
  some (false,())
 else Option.bind (loopT n (X:=Int) (B:=(Unit) ⊕ (Bool)) (fun self5 x4=>
  bif decide (x4<(a0.2.2.2.1.length:Int)) then
   Option.bind (Option.bind (bnd a0.2.2.2.1.length x4 fun n6=>
    Option.bind a0.2.2.2.1[n6]? fun y7=>
    Option.bind (g_sl09Labels (a0.1,y7)) fun r8=>
    bif !r8.1 then
     some true
    else bnd a0.2.2.2.2.1.length x4 fun n9=>
    Option.bind a0.2.2.2.2.1[n9]? fun y10=>
    Option.bind (g_sl01In (y10,(0:Int),(99991:Int))) fun r11=>
    some !r11.1:Option (Bool)) fun x12=>
    bif x12 then
     some (Sum.inr false)
    else some (Sum.inl ()):Option ((Unit) ⊕ (Bool))) fun y=>match y with
   | .inl x13=>
    self5 (IntKind.wrap .i64 (x4+(1:Int)))
   | .inr x13=>
    some (Sum.inr x13)
  else some (Sum.inl ())) (0:Int):Option ((Unit) ⊕ (Bool))) fun y=>match y with
 | .inl x14=>
  Option.bind (loopT n (X:=Int) (B:=(Unit) ⊕ (Bool)) (fun self16 x15=>
   bif decide (x15<a0.1) then
    bnd a0.2.1.length x15 fun n17=>
    Option.bind a0.2.1[n17]? fun y18=>
    Option.bind (g_sl01In (y18,(1:Int),(a0.2.2.2.1.length:Int))) fun r19=>
    bif !r19.1 then
     some (Sum.inr false)
    else self16 (IntKind.wrap .i64 (x15+(1:Int)))
   else some (Sum.inl ())) (0:Int):Option ((Unit) ⊕ (Bool))) fun y=>match y with
  | .inl x20=>
   Option.bind (loopT n (X:=Int) (B:=(Unit) ⊕ (Bool)) (fun self22 x21=>
    bif decide (x21<(a0.2.2.1.length:Int)) then
     bnd a0.2.2.1.length x21 fun n23=>
     Option.bind a0.2.2.1[n23]? fun y24=>
     bnd a0.2.1.length y24.1 fun n25=>
     Option.bind a0.2.1[n25]? fun y26=>
     bnd a0.2.2.1.length x21 fun n27=>
     Option.bind a0.2.2.1[n27]? fun y28=>
     bnd a0.2.1.length y28.2 fun n29=>
     Option.bind a0.2.1[n29]? fun y30=>
     bif decide (y26=y30) then
      some (Sum.inr false)
     else self22 (IntKind.wrap .i64 (x21+(1:Int)))
    else some (Sum.inl ())) (0:Int):Option ((Unit) ⊕ (Bool))) fun y=>match y with
   | .inl x31=>
    Option.bind (loopT n (X:=Int) (B:=(Unit) ⊕ (Bool)) (fun self33 x32=>
     bif decide (x32<(a0.2.2.2.2.2.2.2.2.2.2.2.2.2.2.length:Int)) then
      Option.bind (bnd a0.2.2.2.2.2.2.2.2.2.2.2.2.2.2.length x32 fun n34=>
       Option.bind a0.2.2.2.2.2.2.2.2.2.2.2.2.2.2[n34]? fun y35=>
       Option.bind (bif !decide (y35.1=y35.2.1) then
        some true
        else Option.bind (g_sl01In (y35.2.2.2.2.2,(1:Int),(3:Int))) fun r36=>
        bif !r36.1 then
         some true
        else Option.bind (g_sl12Said (a0,y35.1)) fun r37=>
        some (!decide (r37.1=x32)):Option (Bool)) fun x38=>
       bif x38 then
        some (Sum.inr false)
       else some (Sum.inl ()):Option ((Unit) ⊕ (Bool))) fun y=>match y with
      | .inl x39=>
       self33 (IntKind.wrap .i64 (x32+(1:Int)))
      | .inr x39=>
       some (Sum.inr x39)
     else some (Sum.inl ())) (0:Int):Option ((Unit) ⊕ (Bool))) fun y=>match y with
    | .inl x40=>
     Option.bind (g_sl12TaskOk a0) fun r41=>
     some (r41.1,())
    | .inr x40=>
     some (x40,())
   | .inr x31=>
    some (x31,())
  | .inr x20=>
   some (x20,())
 | .inr x14=>
  some (x14,()):=by kernel_rfl
def c_sBusy:TC:=
 (.seq (.rg [o1 1 (.a (.t 0)),
 o1 2 (.lit [.b] [.bool false])])
 (.seq (.rg [oi 3,
 o1 4 (.idx (.t 3)),
 o1 5 (.load 1 [] 9 (.t 4) 1 false),
 o1 6 (.data (.bin .neq) [.t 5,kD 0]),
 oc 2 6])
 .ret))
def s_sBusy:Sig:=⟨[.rd true Ct1],(.one false [.d])⟩
def E_sBusy:TEnv:=envOf []
def f_sBusy (n:Nat):(Int × List (Int) × List (Int × Int) × List (List (Int)) × List (Int) × Int × Int × Int × Int × Int × Int × Int × List (Int × Int) × Int × List (Int × Int × Int × Int × Int × Int))->Option ((Bool) × Unit):=runFn n E_sBusy c_sBusy [Ty2] [.b] [] [2] .no
def g_sBusy:=f_sBusy BIG
def p_sBusy:TSp:=⟨s_sBusy,[Ty2],[.b],[],Ou.j .no,g_sBusy⟩
theorem k_sBusy:chkW PG E_sBusy 54 s_sBusy (c_sBusy.ht 7) .no=some (c_sBusy.wc E_sBusy,[2]):=by kernel_rfl
theorem ok_sBusy:p_sBusy.Ok PG 54:=mkOk (env_nil PG) k_sBusy (by kernel_rfl)
theorem e_sBusy (n) (a0):f_sBusy n a0 =
 some (!decide (a0.2.2.2.2.2.2.2.2.2.1=(0:Int)),()):=by kernel_rfl
def c_sl12Say:TC:=
 (.seq (.rg [o1 4 (.a (.t 1))])
 (.seq (.rg [o1 6 (.p0),
 o1 7 (.p0),
 o1 8 (.same 7),
 o1 9 (.idx (.t 8)),
 o1 10 (.load 0 [] 14 (.t 9) 1 true),
 oi 11,
 o1 12 (.load 4 [] 0 (.t 11) 1 false),
 o1 13 (.load 4 [] 0 .nil 4 false),
 oc 14 2,
 o1 15 (.build Ty8 [(0,.t 12),(1,.t 13),(5,.t 14)]),
 o1 16 (.sli Ty8 [.t 15]),
 ⟨false,[10],[],.det 2 (.app (some 10) 16),[17,10,10,0],(some 17),none⟩,
 o1 18 (.same 6),
 o1 19 (.idx (.t 18)),
 o4 2 [0,17,10] (.store 0 [] 14 (.t 19) (.t 17))])
 (.rg [o1 20 (.p0),
 o1 21 (.build Ty5 []),
 o1 22 (.same 20),
 o1 23 (.idx (.t 22)),
 o4 2 [0,21] (.store 0 [] 5 (.t 23) (.t 21))])))
def s_sl12Say:Sig:=⟨[.mp Ct1,.rd true [.d,.d,.d,.d],.rd false [.d]],.u⟩
def E_sl12Say:TEnv:=envOf []
def f_sl12Say (n:Nat):(Int × List (Int) × List (Int × Int) × List (List (Int)) × List (Int) × Int × Int × Int × Int × Int × Int × Int × List (Int × Int) × Int × List (Int × Int × Int × Int × Int × Int)) × (Int × Int × Int × Int) × Int->Option ((Unit) × Int × List (Int) × List (Int × Int) × List (List (Int)) × List (Int) × Int × Int × Int × Int × Int × Int × Int × List (Int × Int) × Int × List (Int × Int × Int × Int × Int × Int)):=runFn n E_sl12Say c_sl12Say [Ty2,Ty11,[.i .i64]] [] Ty2 [] (.mp 0)
def g_sl12Say:=f_sl12Say BIG
def p_sl12Say:TSp:=⟨s_sl12Say,[Ty2,Ty11,[.i .i64]],[],Ty2,Ou.j (.mp 0),g_sl12Say⟩
theorem k_sl12Say:chkW PG E_sl12Say 56 s_sl12Say (c_sl12Say.ht 24) (.mp 0)=some (c_sl12Say.wc E_sl12Say,[]):=by kernel_rfl
theorem ok_sl12Say:p_sl12Say.Ok PG 56:=mkOk (env_nil PG) k_sl12Say (by kernel_rfl)
theorem e_sl12Say (n) (a0) (a1) (a2):f_sl12Say n (a0,a1,a2) =
 bif decide (a0.2.2.2.2.2.2.2.2.2.2.2.2.2.2.length+([(a1.1,a1.1,a1.2.1,a1.2.2.1,a1.2.2.2,a2)]).length<=4294967296) then
 some ((),(a0.1,a0.2.1,a0.2.2.1,a0.2.2.2.1,a0.2.2.2.2.1,(0:Int),(0:Int),(0:Int),(0:Int),(0:Int),(0:Int),(0:Int),[],(0:Int),a0.2.2.2.2.2.2.2.2.2.2.2.2.2.2++([(a1.1,a1.1,a1.2.1,a1.2.2.1,a1.2.2.2,a2)])))
 else none:=by kernel_rfl
def c_sWholeLabels:TC:=
 (.seq (.rg [o1 6 (.lit [.sl [.i .i64]] [.slice none 0 0]),
 o1 7 (.lit [.b] [.bool false])])
 (.seq (.rg [o1 12 (.sli [.i .i64,.i .i64] []),
 o5 (.copy 12) 8 12])
 (.seq (.seq (.join [⟨25,[.b],false⟩] 67100672 none (.rg [oc 13 0,
 o3 14 50 [.t 13,kO 1,kO 12],
 o1 15 (.data .not [.t 14]),
 oc 16 15,
 o2 17 (.copy 1) 3 false,
 o2 18 (.len 17) 3 false,
 o2 19 (.data (.bin .gtr) [.t 18,kD 3]) 3 false,
 o7 16 (.c (.bool true)) (.t 19) 20,
 oc 21 20,
 o2 22 (.copy 2) 8 false,
 o2 23 (.len 22) 8 false,
 o2 24 (.data (.bin .gtr) [.t 23,kD 1000]) 8 false,
 o7 21 (.c (.bool true)) (.t 24) 25]))
 (.cond (.t 25)
 (.seq (.rg [o1 26 (.sli [.i .i64] []),
 o5 (.copy 26) 6 26,
 o1 7 (.lit [.b] [.bool false])])
 .ret)
 .skip))
 (.seq (.join [⟨8,[.sl [.i .i64,.i .i64]],false⟩] 302231454903657159460800 (some [⟨6,[.sl [.i .i64]],false⟩,⟨7,[.b],false⟩]) (.seq (.rg [o1 9 (kL 0)])
 (.block 0 (.loop [⟨8,[.sl [.i .i64,.i .i64]],false⟩,⟨9,[.i .i64],false⟩] 302231454903657159460800
 (.seq (.seq (.rg [oc 27 9,
 oc 28 1,
 o1 29 (.len 28),
 o1 30 (.data (.bin .lss) [.t 27,.t 29])])
 (.cond (.t 30)
 .skip
 (.exit 0)))
 (.seq (.join [⟨8,[.sl [.i .i64,.i .i64]],false⟩] 302231454903648703743424 (some [⟨6,[.sl [.i .i64]],false⟩,⟨7,[.b],false⟩]) (.block 1 (.seq (.seq (.rg [oc 33 1,
 oc 34 9,
 o1 35 (.index 33 (.t 34)),
 o1 36 (.load 33 [(0,1)] 0 (.t 35) 1 false),
 o1 37 (.len 36),
 oc 38 0,
 o1 39 (.data (.bin .neq) [.t 37,.t 38])])
 (.cond (.t 39)
 (.seq (.rg [o1 40 (.sli [.i .i64] []),
 o5 (.copy 40) 6 40,
 o1 7 (.lit [.b] [.bool false])])
 .ret)
 .skip))
 (.seq (.rg [o1 10 (kL 0)])
 (.block 2 (.loop [⟨8,[.sl [.i .i64,.i .i64]],false⟩,⟨10,[.i .i64],false⟩] 302231454901458270422464
 (.seq (.seq (.rg [oc 41 10,
 oc 42 0,
 o1 43 (.data (.bin .lss) [.t 41,.t 42])])
 (.cond (.t 43)
 .skip
 (.exit 2)))
 (.seq (.join [⟨8,[.sl [.i .i64,.i .i64]],false⟩] 302231454833288549499328 (some [⟨6,[.sl [.i .i64]],false⟩,⟨7,[.b],false⟩]) (.block 3 (.seq (.seq (.rg [oc 46 1,
 oc 47 9,
 o1 48 (.index 46 (.t 47)),
 o1 49 (.load 46 [(0,1)] 0 (.t 48) 1 false),
 oc 50 10,
 o1 51 (.index 49 (.t 50)),
 o1 52 (.load 49 [(0,1)] 0 (.t 51) 1 false),
 oc 53 10,
 o3 54 50 [.t 52,kO 0,.t 53],
 o1 55 (.data .not [.t 54])])
 (.cond (.t 55)
 (.seq (.rg [o1 56 (.sli [.i .i64] []),
 o5 (.copy 56) 6 56,
 o1 7 (.lit [.b] [.bool false])])
 .ret)
 .skip))
 (.seq (.rg [oc 57 1,
 oc 58 9,
 o1 59 (.index 57 (.t 58)),
 o1 60 (.load 57 [(0,1)] 0 (.t 59) 1 false),
 oc 61 10,
 o1 62 (.index 60 (.t 61)),
 o1 63 (.load 60 [(0,1)] 0 (.t 62) 1 false),
 oc 64 10,
 o1 65 (.data (.bin .lss) [.t 63,.t 64])])
 (.cond (.t 65)
 (.rg [o5 (.copy 8) 66 8,
 oc 67 1,
 oc 68 9,
 o1 69 (.index 67 (.t 68)),
 o1 70 (.load 67 [(0,1)] 0 (.t 69) 1 false),
 oc 71 10,
 o1 72 (.index 70 (.t 71)),
 o1 73 (.load 70 [(0,1)] 0 (.t 72) 1 false),
 oc 74 10,
 o1 75 (.build [.i .i64,.i .i64] [(0,.t 73),(1,.t 74)]),
 o1 76 (.sli [.i .i64,.i .i64] [.t 75]),
 o5 (.app (some 66) 76) 77 66,
 o5 (.copy 77) 8 77])
 .skip)))))
 (.rg [oc 44 10,
 o1 45 (.data (.bin .add) [.t 44,kD 1]),
 oc 10 45])))))))))
 (.rg [oc 31 9,
 o1 32 (.data (.bin .add) [.t 31,kD 1]),
 oc 9 32])))))))
 (.seq (.join [⟨8,[.sl [.i .i64,.i .i64]],false⟩] 633824997882659797091057928640 (some [⟨6,[.sl [.i .i64]],false⟩,⟨7,[.b],false⟩]) (.seq (.rg [o1 11 (kL 0)])
 (.block 4 (.loop [⟨8,[.sl [.i .i64,.i .i64]],false⟩,⟨11,[.i .i64],false⟩] 633824997882659797091057928640
 (.seq (.seq (.rg [oc 78 11,
 oc 79 2,
 o1 80 (.len 79),
 o1 81 (.data (.bin .lss) [.t 78,.t 80])])
 (.cond (.t 81)
 .skip
 (.exit 4)))
 (.seq (.block 5 (.seq (.seq (.rg [oc 84 0,
 oc 85 2,
 oc 86 11,
 o1 87 (.index 85 (.t 86)),
 o1 88 (.load 85 [(0,2)] 0 (.t 87) 2 false),
 o3 89 85 [.t 84,.t 88],
 o1 90 (.data .not [.t 89])])
 (.cond (.t 90)
 (.seq (.rg [o1 91 (.sli [.i .i64] []),
 o5 (.copy 91) 6 91,
 o1 7 (.lit [.b] [.bool false])])
 .ret)
 .skip))
 (.rg [o5 (.copy 8) 92 8,
 oc 93 2,
 oc 94 11,
 o1 95 (.index 93 (.t 94)),
 o1 96 (.load 93 [(0,2)] 0 (.t 95) 2 false),
 o1 97 (.sli [.i .i64,.i .i64] [.t 96]),
 o5 (.app (some 92) 97) 98 92,
 o5 (.copy 98) 8 98])))
 (.rg [oc 82 11,
 o1 83 (.data (.bin .add) [.t 82,kD 1]),
 oc 11 83])))))))
 (.seq (.rg [oc 99 0,
 o5 (.copy 8) 100 8,
 o3 101 51 [.t 99,.t 100],
 o5 (.copy 101) 6 101,
 o1 7 (.lit [.b] [.bool true])])
 .ret))))))
def s_sWholeLabels:Sig:=⟨[.rd false [.d],.rd false [.sl (.own none) Ct9],.rd false Ct8],(.tup [(false,1),(false,1)] [.sl (.own none) [.d],.d])⟩
def E_sWholeLabels:TEnv:=envOf [(50,p_sl01In),(85,p_sEdgeOk),(51,p_sl05Labels)]
def f_sWholeLabels (n:Nat):Int × List (List (Int)) × (List (Int × Int))->Option ((List (Int) × Bool) × Unit):=runFn n E_sWholeLabels c_sWholeLabels [[.i .i64],[.sl [.sl [.i .i64]]],[.sl [.i .i64,.i .i64]]] [.sl [.i .i64],.b] [] [6,7] .no
def g_sWholeLabels:=f_sWholeLabels BIG
def p_sWholeLabels:TSp:=⟨s_sWholeLabels,[[.i .i64],[.sl [.sl [.i .i64]]],[.sl [.i .i64,.i .i64]]],[.sl [.i .i64],.b],[],Ou.j .no,g_sWholeLabels⟩
theorem k_sWholeLabels:chkW PG E_sWholeLabels 57 s_sWholeLabels (c_sWholeLabels.ht 102) .no=some (c_sWholeLabels.wc E_sWholeLabels,[6,7]):=by kernel_rfl
theorem ok_sWholeLabels:p_sWholeLabels.Ok PG 57:=mkOk (env_cons ok_sl01In (env_cons ok_sEdgeOk (env_cons ok_sl05Labels (env_nil PG)))) k_sWholeLabels (by kernel_rfl)
theorem e_sWholeLabels (n) (a0) (a1) (a2):f_sWholeLabels n (a0,a1,a2) =
 Option.bind (Option.bind (g_sl01In (a0,(1:Int),(12:Int))) fun r0=>
  bif !r0.1 then
   some true
  else bif decide ((3:Int)<(a1.length:Int)) then
   some true
  else some (decide ((1000:Int)<(a2.length:Int))):Option (Bool)) fun x1=>
 bif x1 then
  some (([],false),())
 else Option.bind (loopT n (X:=(List (Int × Int)) × Int) (B:=((List (Int × Int))) ⊕ ((List (Int)) × Bool)) (fun self3 x2=>
  bif decide (x2.2<(a1.length:Int)) then
   Option.bind (bnd a1.length x2.2 fun n4=>
    Option.bind a1[n4]? fun y5=>
    bif !decide ((y5.length:Int)=a0) then
     some (Sum.inr ([],false))
    else loopT n (X:=(List (Int × Int)) × Int) (B:=((List (Int × Int))) ⊕ ((List (Int)) × Bool)) (fun self7 x6=>
     bif decide (x6.2<a0) then
      Option.bind (bnd a1.length x2.2 fun n8=>
       Option.bind a1[n8]? fun y9=>
       bnd y9.length x6.2 fun n10=>
       Option.bind y9[n10]? fun y11=>
       Option.bind (g_sl01In (y11,(0:Int),x6.2)) fun r12=>
       bif !r12.1 then
        some (Sum.inr ([],false))
       else bnd a1.length x2.2 fun n13=>
       Option.bind a1[n13]? fun y14=>
       bnd y14.length x6.2 fun n15=>
       Option.bind y14[n15]? fun y16=>
       bif decide (y16<x6.2) then
        bnd a1.length x2.2 fun n17=>
        Option.bind a1[n17]? fun y18=>
        bnd y18.length x6.2 fun n19=>
        Option.bind y18[n19]? fun y20=>
        bif decide (x6.1.length+([(y20,x6.2)]).length<=4294967296) then
         some (Sum.inl (x6.1++([(y20,x6.2)])))
        else none
       else some (Sum.inl x6.1):Option (((List (Int × Int))) ⊕ ((List (Int)) × Bool))) fun y=>match y with
      | .inl x21=>
       self7 (x21,IntKind.wrap .i64 (x6.2+(1:Int)))
      | .inr x21=>
       some (Sum.inr (x21.1,x21.2))
     else some (Sum.inl x6.1)) (x2.1,(0:Int)):Option (((List (Int × Int))) ⊕ ((List (Int)) × Bool))) fun y=>match y with
   | .inl x22=>
    self3 (x22,IntKind.wrap .i64 (x2.2+(1:Int)))
   | .inr x22=>
    some (Sum.inr (x22.1,x22.2))
  else some (Sum.inl x2.1)) ([],(0:Int)):Option (((List (Int × Int))) ⊕ ((List (Int)) × Bool))) fun y=>match y with
 | .inl x23=>
  Option.bind (loopT n (X:=(List (Int × Int)) × Int) (B:=((List (Int × Int))) ⊕ ((List (Int)) × Bool)) (fun self25 x24=>
   bif decide (x24.2<(a2.length:Int)) then
    bnd a2.length x24.2 fun n26=>
    Option.bind a2[n26]? fun y27=>
    Option.bind (g_sEdgeOk (a0,y27)) fun r28=>
    bif !r28.1 then
     some (Sum.inr ([],false))
    else bnd a2.length x24.2 fun n29=>
    Option.bind a2[n29]? fun y30=>
    bif decide (x24.1.length+[y30].length<=4294967296) then
     self25 (x24.1++[y30],IntKind.wrap .i64 (x24.2+(1:Int)))
    else none
   else some (Sum.inl x24.1)) (x23,(0:Int)):Option (((List (Int × Int))) ⊕ ((List (Int)) × Bool))) fun y=>match y with
  | .inl x31=>
   Option.bind (g_sl05Labels (a0,x31)) fun r32=>
   some ((r32.1,true),())
  | .inr x31=>
   some (x31,())
 | .inr x23=>
  some (x23,()):=by kernel_rfl
def c_sl12Task:TC:=
 (.seq (.rg [o1 5 (.a (.t 1)),
 o5 (.a (.t 3)) 7 3,
 o1 8 (kL 0)])
 (.seq (.rg [o1 9 (.p0),
 o1 10 (.same 9),
 o1 11 (.idx (.t 10)),
 o1 12 (.load 0 [] 4 (.t 11) 1 true),
 oc 13 2,
 o1 14 (.data (.bin .sub) [.t 13,kD 1]),
 o1 15 (.index 12 (.t 14)),
 o1 16 (.load 0 [(4,1)] 0 (.t 15) 1 false),
 o1 17 (.data (.bin .add) [.t 16,kD 1]),
 oi 18,
 o4 1 [7] (.store 7 [] 0 (.t 18) (.t 17))])
 (.seq (.rg [o1 19 (.p0),
 o1 20 (.load 5 [] 0 .nil 4 false),
 oc 21 2,
 o1 22 (.load 7 [] 0 .nil 4 true),
 ⟨false,[22],[],.det 2 (.build Ty5 [(0,.t 20),(4,.t 21),(5,.t 22)]),[23,22,22,7],(some 23),none⟩,
 o1 24 (.same 19),
 o1 25 (.idx (.t 24)),
 o4 2 [0,23,12,15] (.store 0 [] 5 (.t 25) (.t 23))])
 (.seq (.rg [o1 8 (kL 2)])
 .ret))))
def s_sl12Task:Sig:=⟨[.mp Ct1,.rd true [.d,.d,.d,.d],.rd false [.d],.tk true Ct7],(.one false [.d])⟩
def E_sl12Task:TEnv:=envOf []
def f_sl12Task (n:Nat):(Int × List (Int) × List (Int × Int) × List (List (Int)) × List (Int) × Int × Int × Int × Int × Int × Int × Int × List (Int × Int) × Int × List (Int × Int × Int × Int × Int × Int)) × (Int × Int × Int × Int) × Int × (Int × Int × List (Int × Int) × Int)->Option ((Int) × Int × List (Int) × List (Int × Int) × List (List (Int)) × List (Int) × Int × Int × Int × Int × Int × Int × Int × List (Int × Int) × Int × List (Int × Int × Int × Int × Int × Int)):=runFn n E_sl12Task c_sl12Task [Ty2,Ty11,[.i .i64],Ty10] [.i .i64] Ty2 [8] (.mp 0)
def g_sl12Task:=f_sl12Task BIG
def p_sl12Task:TSp:=⟨s_sl12Task,[Ty2,Ty11,[.i .i64],Ty10],[.i .i64],Ty2,Ou.j (.mp 0),g_sl12Task⟩
theorem k_sl12Task:chkW PG E_sl12Task 58 s_sl12Task (c_sl12Task.ht 26) (.mp 0)=some (c_sl12Task.wc E_sl12Task,[8]):=by kernel_rfl
theorem ok_sl12Task:p_sl12Task.Ok PG 58:=mkOk (env_nil PG) k_sl12Task (by kernel_rfl)
theorem e_sl12Task (n) (a0) (a1) (a2) (a3):f_sl12Task n (a0,a1,a2,a3) =
 bnd a0.2.2.2.2.1.length (IntKind.wrap .i64 (a2-(1:Int))) fun n0=>
 Option.bind a0.2.2.2.2.1[n0]? fun y1=>
 some ((2:Int),(a0.1,a0.2.1,a0.2.2.1,a0.2.2.2.1,a0.2.2.2.2.1,a1.1,a1.2.1,a1.2.2.1,a1.2.2.2,a2,IntKind.wrap .i64 (y1+(1:Int)),a3.2.1,a3.2.2.1,a3.2.2.2,a0.2.2.2.2.2.2.2.2.2.2.2.2.2.2)):=by kernel_rfl
def c_sl12Edge:TC:=
 (.seq (.rg [o1 1 (.a (.t 0)),
 o5 (.a (.c [.i .i64,.i .i64] [kV 0,kV 0])) 2 1000000001])
 (.seq (.seq (.rg [oi 3,
 o1 4 (.load 1 [] 2 (.t 3) 1 false),
 oi 5,
 o1 6 (.load 1 [] 3 (.t 5) 1 false),
 o1 7 (.data (.bin .lss) [.t 4,.t 6])])
 (.cond (.t 7)
 (.seq (.rg [oi 8,
 o1 9 (.load 1 [] 2 (.t 8) 1 false),
 oi 10,
 o1 11 (.load 1 [] 3 (.t 10) 1 false),
 o1 12 (.build [.i .i64,.i .i64] [(0,.t 9),(1,.t 11)]),
 o4 1 [2] (.store 2 [] 0 .nil (.t 12))])
 .ret)
 .skip))
 (.seq (.rg [oi 13,
 o1 14 (.load 1 [] 3 (.t 13) 1 false),
 oi 15,
 o1 16 (.load 1 [] 2 (.t 15) 1 false),
 o1 17 (.build [.i .i64,.i .i64] [(0,.t 14),(1,.t 16)]),
 o4 1 [2] (.store 2 [] 0 .nil (.t 17))])
 .ret)))
def s_sl12Edge:Sig:=⟨[.rd true [.d,.d,.d,.d]],(.one true [.d,.d])⟩
def E_sl12Edge:TEnv:=envOf []
def f_sl12Edge (n:Nat):(Int × Int × Int × Int)->Option ((Int × Int) × Unit):=runFn n E_sl12Edge c_sl12Edge [Ty11] [.i .i64,.i .i64] [] [2] .no
def g_sl12Edge:=f_sl12Edge BIG
def p_sl12Edge:TSp:=⟨s_sl12Edge,[Ty11],[.i .i64,.i .i64],[],Ou.j .no,g_sl12Edge⟩
theorem k_sl12Edge:chkW PG E_sl12Edge 86 s_sl12Edge (c_sl12Edge.ht 18) .no=some (c_sl12Edge.wc E_sl12Edge,[2]):=by kernel_rfl
theorem ok_sl12Edge:p_sl12Edge.Ok PG 86:=mkOk (env_nil PG) k_sl12Edge (by kernel_rfl)
theorem e_sl12Edge (n) (a0):f_sl12Edge n a0 =
 bif decide (a0.2.2.1<a0.2.2.2) then
 some (a0.2.2,())
 else some ((a0.2.2.2,a0.2.2.1),()):=by kernel_rfl
def c_sl05Has:TC:=
 (.seq (.rg [o1 3 (.a (.t 1)),
 o1 4 (.lit [.b] [.bool false])])
 (.seq (.join [] 262128 (some [⟨4,[.b],false⟩]) (.seq (.rg [o1 5 (kL 0)])
 (.block 0 (.loop [⟨5,[.i .i64],false⟩] 262128
 (.seq (.seq (.rg [oc 6 5,
 oc 7 0,
 o1 8 (.len 7),
 o1 9 (.data (.bin .lss) [.t 6,.t 8])])
 (.cond (.t 9)
 .skip
 (.exit 0)))
 (.seq (.block 1 (.seq (.rg [oc 12 0,
 oc 13 5,
 o1 14 (.index 12 (.t 13)),
 o1 15 (.load 12 [(0,2)] 0 (.t 14) 2 false),
 o1 16 (.load 3 [] 0 .nil 2 false),
 o1 17 (.eqA [.i,.i] (.t 15) (.t 16) false)])
 (.cond (.t 17)
 (.seq (.rg [o1 4 (.lit [.b] [.bool true])])
 .ret)
 .skip)))
 (.rg [oc 10 5,
 o1 11 (.data (.bin .add) [.t 10,kD 1]),
 oc 5 11])))))))
 (.seq (.rg [o1 4 (.lit [.b] [.bool false])])
 .ret)))
def s_sl05Has:Sig:=⟨[.rd false Ct8,.rd true [.d,.d]],(.one false [.d])⟩
def E_sl05Has:TEnv:=envOf []
def f_sl05Has (n:Nat):(List (Int × Int)) × (Int × Int)->Option ((Bool) × Unit):=runFn n E_sl05Has c_sl05Has [[.sl [.i .i64,.i .i64]],[.i .i64,.i .i64]] [.b] [] [4] .no
def g_sl05Has:=f_sl05Has BIG
def p_sl05Has:TSp:=⟨s_sl05Has,[[.sl [.i .i64,.i .i64]],[.i .i64,.i .i64]],[.b],[],Ou.j .no,g_sl05Has⟩
theorem k_sl05Has:chkW PG E_sl05Has 87 s_sl05Has (c_sl05Has.ht 18) .no=some (c_sl05Has.wc E_sl05Has,[4]):=by kernel_rfl
theorem ok_sl05Has:p_sl05Has.Ok PG 87:=mkOk (env_nil PG) k_sl05Has (by kernel_rfl)
theorem e_sl05Has (n) (a0) (a1):f_sl05Has n (a0,a1) =
 Option.bind (loopT n (X:=Int) (B:=(Unit) ⊕ (Bool)) (fun self1 x0=>
  bif decide (x0<(a0.length:Int)) then
   bnd a0.length x0 fun n2=>
   Option.bind a0[n2]? fun y3=>
   bif (decide (y3.1=a1.1)&&(decide (y3.2=a1.2)&&true)) then
    some (Sum.inr true)
   else self1 (IntKind.wrap .i64 (x0+(1:Int)))
  else some (Sum.inl ())) (0:Int):Option ((Unit) ⊕ (Bool))) fun y=>match y with
 | .inl x4=>
  some (false,())
 | .inr x4=>
  some (x4,()):=by kernel_rfl
def c_sl05Without:TC:=
 (.seq (.rg [o1 3 (.a (.t 1)),
 o1 4 (.lit [.sl [.i .i64,.i .i64]] [.slice none 0 0])])
 (.seq (.rg [o1 7 (.sli [.i .i64,.i .i64] []),
 o5 (.copy 7) 5 7])
 (.seq (.join [⟨5,[.sl [.i .i64,.i .i64]],false⟩] 134217568 none (.seq (.rg [o1 6 (kL 0)])
 (.block 0 (.loop [⟨5,[.sl [.i .i64,.i .i64]],false⟩,⟨6,[.i .i64],false⟩] 134217568
 (.seq (.seq (.rg [oc 8 6,
 oc 9 0,
 o1 10 (.len 9),
 o1 11 (.data (.bin .lss) [.t 8,.t 10])])
 (.cond (.t 11)
 .skip
 (.exit 0)))
 (.seq (.join [⟨5,[.sl [.i .i64,.i .i64]],false⟩] 134201376 none (.block 1 (.seq (.rg [oc 14 0,
 oc 15 6,
 o1 16 (.index 14 (.t 15)),
 o1 17 (.load 14 [(0,2)] 0 (.t 16) 2 false),
 o1 18 (.load 3 [] 0 .nil 2 false),
 o1 19 (.eqA [.i,.i] (.t 17) (.t 18) true)])
 (.cond (.t 19)
 (.rg [o5 (.copy 5) 20 5,
 oc 21 0,
 oc 22 6,
 o1 23 (.index 21 (.t 22)),
 o1 24 (.load 21 [(0,2)] 0 (.t 23) 2 false),
 o1 25 (.sli [.i .i64,.i .i64] [.t 24]),
 o5 (.app (some 20) 25) 26 20,
 o5 (.copy 26) 5 26])
 .skip))))
 (.rg [oc 12 6,
 o1 13 (.data (.bin .add) [.t 12,kD 1]),
 oc 6 13])))))))
 (.seq (.rg [o5 (.copy 5) 27 5,
 o5 (.copy 27) 4 27])
 .ret))))
def s_sl05Without:Sig:=⟨[.rd false Ct8,.rd true [.d,.d]],(.one false Ct8)⟩
def E_sl05Without:TEnv:=envOf []
def f_sl05Without (n:Nat):(List (Int × Int)) × (Int × Int)->Option ((List (Int × Int)) × Unit):=runFn n E_sl05Without c_sl05Without [[.sl [.i .i64,.i .i64]],[.i .i64,.i .i64]] [.sl [.i .i64,.i .i64]] [] [4] .no
def g_sl05Without:=f_sl05Without BIG
def p_sl05Without:TSp:=⟨s_sl05Without,[[.sl [.i .i64,.i .i64]],[.i .i64,.i .i64]],[.sl [.i .i64,.i .i64]],[],Ou.j .no,g_sl05Without⟩
theorem k_sl05Without:chkW PG E_sl05Without 88 s_sl05Without (c_sl05Without.ht 28) .no=some (c_sl05Without.wc E_sl05Without,[4]):=by kernel_rfl
theorem ok_sl05Without:p_sl05Without.Ok PG 88:=mkOk (env_nil PG) k_sl05Without (by kernel_rfl)
theorem e_sl05Without (n) (a0) (a1):f_sl05Without n (a0,a1) =
 Option.bind (loopT n (X:=(List (Int × Int)) × Int) (B:=(List (Int × Int))) (fun self1 x0=>
 bif decide (x0.2<(a0.length:Int)) then
 Option.bind (bnd a0.length x0.2 fun n2=>
 Option.bind a0[n2]? fun y3=>
 bif !(decide (y3.1=a1.1)&&(decide (y3.2=a1.2)&&true)) then
 bnd a0.length x0.2 fun n4=>
 Option.bind a0[n4]? fun y5=>
 bif decide (x0.1.length+[y5].length<=4294967296) then
 some (x0.1++[y5])
 else none
 else some x0.1:Option ((List (Int × Int)))) fun x6=>
 self1 (x6,IntKind.wrap .i64 (x0.2+(1:Int)))
 else some x0.1) ([],(0:Int)):Option ((List (Int × Int)))) fun x7=>
 some (x7,()):=by kernel_rfl
def c_sl05Put:TC:=
 (.seq (.rg [o1 3 (.a (.t 1)),
 o1 4 (.lit [.sl [.i .i64,.i .i64]] [.slice none 0 0])])
 (.seq (.rg [o1 8 (.sli [.i .i64,.i .i64] []),
 o5 (.copy 8) 5 8])
 (.seq (.join [⟨5,[.sl [.i .i64,.i .i64]],false⟩] 268435040 none (.seq (.rg [o1 6 (kL 0)])
 (.block 0 (.loop [⟨5,[.sl [.i .i64,.i .i64]],false⟩,⟨6,[.i .i64],false⟩] 268435040
 (.seq (.seq (.rg [oc 9 6,
 oc 10 0,
 o1 11 (.len 10),
 o1 12 (.data (.bin .lss) [.t 9,.t 11])])
 (.cond (.t 12)
 .skip
 (.exit 0)))
 (.seq (.join [⟨5,[.sl [.i .i64,.i .i64]],false⟩] 268402720 none (.block 1 (.seq (.rg [oc 15 0,
 oc 16 6,
 o1 17 (.index 15 (.t 16)),
 o1 18 (.load 15 [(0,2)] 0 (.t 17) 2 false),
 o1 19 (.load 3 [] 0 .nil 2 false),
 o3 20 107 [.t 18,.t 19]])
 (.cond (.t 20)
 (.rg [o5 (.copy 5) 21 5,
 oc 22 0,
 oc 23 6,
 o1 24 (.index 22 (.t 23)),
 o1 25 (.load 22 [(0,2)] 0 (.t 24) 2 false),
 o1 26 (.sli [.i .i64,.i .i64] [.t 25]),
 o5 (.app (some 21) 26) 27 21,
 o5 (.copy 27) 5 27])
 .skip))))
 (.rg [oc 13 6,
 o1 14 (.data (.bin .add) [.t 13,kD 1]),
 oc 6 14])))))))
 (.seq (.rg [o5 (.copy 5) 28 5,
 o1 29 (.load 3 [] 0 .nil 2 false),
 o1 30 (.sli [.i .i64,.i .i64] [.t 29]),
 o5 (.app (some 28) 30) 31 28,
 o5 (.copy 31) 5 31])
 (.seq (.join [⟨5,[.sl [.i .i64,.i .i64]],false⟩] 2251795518718112 none (.seq (.rg [o1 7 (kL 0)])
 (.block 2 (.loop [⟨5,[.sl [.i .i64,.i .i64]],false⟩,⟨7,[.i .i64],false⟩] 2251795518718112
 (.seq (.seq (.rg [oc 32 7,
 oc 33 0,
 o1 34 (.len 33),
 o1 35 (.data (.bin .lss) [.t 32,.t 34])])
 (.cond (.t 35)
 .skip
 (.exit 2)))
 (.seq (.join [⟨5,[.sl [.i .i64,.i .i64]],false⟩] 2251524935778336 none (.block 3 (.seq (.rg [o1 38 (.load 3 [] 0 .nil 2 false),
 oc 39 0,
 oc 40 7,
 o1 41 (.index 39 (.t 40)),
 o1 42 (.load 39 [(0,2)] 0 (.t 41) 2 false),
 o3 43 107 [.t 38,.t 42]])
 (.cond (.t 43)
 (.rg [o5 (.copy 5) 44 5,
 oc 45 0,
 oc 46 7,
 o1 47 (.index 45 (.t 46)),
 o1 48 (.load 45 [(0,2)] 0 (.t 47) 2 false),
 o1 49 (.sli [.i .i64,.i .i64] [.t 48]),
 o5 (.app (some 44) 49) 50 44,
 o5 (.copy 50) 5 50])
 .skip))))
 (.rg [oc 36 7,
 o1 37 (.data (.bin .add) [.t 36,kD 1]),
 oc 7 37])))))))
 (.seq (.rg [o5 (.copy 5) 51 5,
 o5 (.copy 51) 4 51])
 .ret))))))
def s_sl05Put:Sig:=⟨[.rd false Ct8,.rd true [.d,.d]],(.one false Ct8)⟩
def E_sl05Put:TEnv:=envOf [(107,p_sl05Less)]
def f_sl05Put (n:Nat):(List (Int × Int)) × (Int × Int)->Option ((List (Int × Int)) × Unit):=runFn n E_sl05Put c_sl05Put [[.sl [.i .i64,.i .i64]],[.i .i64,.i .i64]] [.sl [.i .i64,.i .i64]] [] [4] .no
def g_sl05Put:=f_sl05Put BIG
def p_sl05Put:TSp:=⟨s_sl05Put,[[.sl [.i .i64,.i .i64]],[.i .i64,.i .i64]],[.sl [.i .i64,.i .i64]],[],Ou.j .no,g_sl05Put⟩
theorem k_sl05Put:chkW PG E_sl05Put 89 s_sl05Put (c_sl05Put.ht 52) .no=some (c_sl05Put.wc E_sl05Put,[4]):=by kernel_rfl
theorem ok_sl05Put:p_sl05Put.Ok PG 89:=mkOk (env_cons ok_sl05Less (env_nil PG)) k_sl05Put (by kernel_rfl)
theorem e_sl05Put (n) (a0) (a1):f_sl05Put n (a0,a1) =
 Option.bind (loopT n (X:=(List (Int × Int)) × Int) (B:=(List (Int × Int))) (fun self1 x0=>
 bif decide (x0.2<(a0.length:Int)) then
 Option.bind (bnd a0.length x0.2 fun n2=>
 Option.bind a0[n2]? fun y3=>
 Option.bind (g_sl05Less (y3,a1)) fun r4=>
 bif r4.1 then
 bnd a0.length x0.2 fun n5=>
 Option.bind a0[n5]? fun y6=>
 bif decide (x0.1.length+[y6].length<=4294967296) then
 some (x0.1++[y6])
 else none
 else some x0.1:Option ((List (Int × Int)))) fun x7=>
 self1 (x7,IntKind.wrap .i64 (x0.2+(1:Int)))
 else some x0.1) ([],(0:Int)):Option ((List (Int × Int)))) fun x8=>
 bif decide (x8.length+[a1].length<=4294967296) then
 Option.bind (loopT n (X:=(List (Int × Int)) × Int) (B:=(List (Int × Int))) (fun self10 x9=>
 bif decide (x9.2<(a0.length:Int)) then
 Option.bind (bnd a0.length x9.2 fun n11=>
 Option.bind a0[n11]? fun y12=>
 Option.bind (g_sl05Less (a1,y12)) fun r13=>
 bif r13.1 then
 bnd a0.length x9.2 fun n14=>
 Option.bind a0[n14]? fun y15=>
 bif decide (x9.1.length+[y15].length<=4294967296) then
 some (x9.1++[y15])
 else none
 else some x9.1:Option ((List (Int × Int)))) fun x16=>
 self10 (x16,IntKind.wrap .i64 (x9.2+(1:Int)))
 else some x9.1) (x8++[a1],(0:Int)):Option ((List (Int × Int)))) fun x17=>
 some (x17,())
 else none:=by kernel_rfl
def c_sl12Change:TC:=
 (.seq (.rg [o1 3 (.a (.t 1)),
 o1 4 (kL 0)])
 (.seq (.rg [o1 8 (.load 3 [] 0 .nil 4 false),
 o3 9 86 [.t 8],
 o5 (.a (.c [.i .i64,.i .i64] [kV 0,kV 0])) 5 1000000001,
 o4 1 [5] (.store 5 [] 0 .nil (.t 9))])
 (.seq (.rg [o1 6 (kL 1)])
 (.seq (.join [⟨6,[.i .i64],false⟩] 7232 none (.seq (.rg [oi 10,
 o1 11 (.load 3 [] 1 (.t 10) 1 false),
 o1 12 (.data (.bin .eql) [.t 11,kD 2])])
 (.cond (.t 12)
 (.rg [o1 6 (kL 2)])
 .skip)))
 (.seq (.seq (.rg [o1 13 (.p0),
 o1 14 (.same 13),
 o1 15 (.idx (.t 14)),
 o1 16 (.load 0 [] 1 (.t 15) 1 true),
 oi 17,
 o1 18 (.load 5 [] 0 (.t 17) 1 false),
 o1 19 (.index 16 (.t 18)),
 o1 20 (.load 0 [(1,1)] 0 (.t 19) 1 false),
 o1 21 (.p0),
 o1 22 (.same 21),
 o1 23 (.idx (.t 22)),
 o1 24 (.load 0 [] 1 (.t 23) 1 true),
 oi 25,
 o1 26 (.load 5 [] 1 (.t 25) 1 false),
 o1 27 (.index 24 (.t 26)),
 o1 28 (.load 0 [(1,1)] 0 (.t 27) 1 false),
 o1 29 (.data (.bin .eql) [.t 20,.t 28])])
 (.cond (.t 29)
 (.seq (.rg [o1 30 (.p0),
 o1 31 (.load 3 [] 0 .nil 4 false),
 o1 32 (.p0),
 o1 33 (.same 32),
 o1 34 (.idx (.t 33)),
 o1 35 (.load 0 [] 1 (.t 34) 1 true),
 oi 36,
 o1 37 (.load 5 [] 0 (.t 36) 1 false),
 o1 38 (.index 35 (.t 37)),
 o1 39 (.load 0 [(1,1)] 0 (.t 38) 1 false),
 oc 40 6,
 o1 41 (.load 5 [] 0 .nil 2 false),
 o1 42 (.sli [.i .i64,.i .i64] [.t 41]),
 o5 (.build Ty10 [(1,.t 40),(2,.t 42)]) 43 42,
 ⟨false,[],[],.call 3 58 [.t 0,.t 31,.t 39,.t 43] (.mp 0),[44,0,43,16,19,24,27,38,35],(some 44),none⟩,
 oc 4 44])
 .ret)
 .skip))
 (.seq (.rg [o1 45 (.p0),
 o1 46 (.same 45),
 o1 47 (.idx (.t 46)),
 o1 48 (.load 0 [] 2 (.t 47) 1 true),
 o1 49 (.load 5 [] 0 .nil 2 false),
 o3 50 87 [.t 48,.t 49],
 oc 7 50])
 (.seq (.seq (.rg [oc 51 7,
 oi 52,
 o1 53 (.load 3 [] 1 (.t 52) 1 false),
 o1 54 (.data (.bin .eql) [.t 53,kD 1]),
 o1 55 (.data (.beq false) [.t 51,.t 54])])
 (.cond (.t 55)
 (.seq (.rg [o1 56 (.p0),
 o1 57 (.load 3 [] 0 .nil 4 false),
 ⟨false,[],[],.call 2 56 [.t 0,.t 57,kO 2] (.mp 0),[58,0,16,19,24,27,48],(some 58),none⟩])
 (.seq (.rg [o1 4 (kL 1)])
 .ret))
 .skip))
 (.seq (.join [⟨0,Ty2,false⟩] 302230878724380118548481 none (.seq (.rg [oc 59 7])
 (.cond (.t 59)
 (.rg [o1 60 (.p0),
 o1 61 (.p0),
 o1 62 (.same 61),
 o1 63 (.idx (.t 62)),
 o1 64 (.load 0 [] 2 (.t 63) 1 true),
 o1 65 (.load 5 [] 0 .nil 2 false),
 o3 66 88 [.t 64,.t 65],
 o1 67 (.same 60),
 o1 68 (.idx (.t 67)),
 o4 2 [0,66,16,19,24,27,48,64] (.store 0 [] 2 (.t 68) (.t 66))])
 (.rg [o1 69 (.p0),
 o1 70 (.p0),
 o1 71 (.same 70),
 o1 72 (.idx (.t 71)),
 o1 73 (.load 0 [] 2 (.t 72) 1 true),
 o1 74 (.load 5 [] 0 .nil 2 false),
 o3 75 89 [.t 73,.t 74],
 o1 76 (.same 69),
 o1 77 (.idx (.t 76)),
 o4 2 [0,75,16,19,24,27,48,73] (.store 0 [] 2 (.t 77) (.t 75))]))))
 (.seq (.rg [o1 78 (.p0),
 o1 79 (.load 3 [] 0 .nil 4 false),
 ⟨false,[],[],.call 2 56 [.t 0,.t 79,kO 1] (.mp 0),[80,0],(some 80),none⟩])
 (.seq (.rg [o1 4 (kL 1)])
 .ret))))))))))
def s_sl12Change:Sig:=⟨[.mp Ct1,.rd true [.d,.d,.d,.d]],(.one false [.d])⟩
def E_sl12Change:TEnv:=envOf [(86,p_sl12Edge),(58,p_sl12Task),(87,p_sl05Has),(56,p_sl12Say),(88,p_sl05Without),(89,p_sl05Put)]
def f_sl12Change (n:Nat):(Int × List (Int) × List (Int × Int) × List (List (Int)) × List (Int) × Int × Int × Int × Int × Int × Int × Int × List (Int × Int) × Int × List (Int × Int × Int × Int × Int × Int)) × (Int × Int × Int × Int)->Option ((Int) × Int × List (Int) × List (Int × Int) × List (List (Int)) × List (Int) × Int × Int × Int × Int × Int × Int × Int × List (Int × Int) × Int × List (Int × Int × Int × Int × Int × Int)):=runFn n E_sl12Change c_sl12Change [Ty2,Ty11] [.i .i64] Ty2 [4] (.mp 0)
def g_sl12Change:=f_sl12Change BIG
def p_sl12Change:TSp:=⟨s_sl12Change,[Ty2,Ty11],[.i .i64],Ty2,Ou.j (.mp 0),g_sl12Change⟩
theorem k_sl12Change:chkW PG E_sl12Change 59 s_sl12Change (c_sl12Change.ht 81) (.mp 0)=some (c_sl12Change.wc E_sl12Change,[4]):=by kernel_rfl
theorem ok_sl12Change:p_sl12Change.Ok PG 59:=mkOk (env_cons ok_sl12Edge (env_cons ok_sl12Task (env_cons ok_sl05Has (env_cons ok_sl12Say (env_cons ok_sl05Without (env_cons ok_sl05Put (env_nil PG))))))) k_sl12Change (by kernel_rfl)
theorem e_sl12Change (n) (a0) (a1):f_sl12Change n (a0,a1) =
 Option.bind (g_sl12Edge a1) fun r0=>
 Option.bind (bif decide (a1.2.1=(2:Int)) then
 some (2:Int)
 else some (1:Int):Option (Int)) fun x1=>
 bnd a0.2.1.length r0.1.1 fun n2=>
 Option.bind a0.2.1[n2]? fun y3=>
 bnd a0.2.1.length r0.1.2 fun n4=>
 Option.bind a0.2.1[n4]? fun y5=>
 bif decide (y3=y5) then
 bnd a0.2.1.length r0.1.1 fun n6=>
 Option.bind a0.2.1[n6]? fun y7=>
 Option.bind (g_sl12Task (a0,a1,y7,((0:Int),x1,[r0.1],(0:Int)))) fun r8=>
 some (r8.1,r8.2)
 else Option.bind (g_sl05Has (a0.2.2.1,r0.1)) fun r9=>
 bif (r9.1 == (decide (a1.2.1=(1:Int)))) then
 Option.bind (g_sl12Say (a0,a1,(2:Int))) fun r10=>
 some ((1:Int),r10.2)
 else Option.bind (bif r9.1 then
 Option.bind (g_sl05Without (a0.2.2.1,r0.1)) fun r11=>
 some (a0.1,a0.2.1,r11.1,a0.2.2.2)
 else Option.bind (g_sl05Put (a0.2.2.1,r0.1)) fun r12=>
 some (a0.1,a0.2.1,r12.1,a0.2.2.2):Option ((Int × List (Int) × List (Int × Int) × List ((List (Int))) × List (Int) × Int × Int × Int × Int × Int × Int × Int × List (Int × Int) × Int × List (Int × Int × Int × Int × Int × Int)))) fun x13=>
 Option.bind (g_sl12Say (x13,a1,(1:Int))) fun r14=>
 some ((1:Int),r14.2):=by kernel_rfl
def c_sTake:TC:=
 (.seq (.rg [o1 2 (.a (.t 0)),
 o1 3 (.a (.t 1)),
 o5 (.a (.c Ty2 [kV 0,.slice none 0 0,.slice none 0 0,.slice none 0 0,.slice none 0 0,kV 0,kV 0,kV 0,kV 0,kV 0,kV 0,kV 0,.slice none 0 0,kV 0,.slice none 0 0])) 4 1000000001,
 o1 5 (kL 0)])
 (.seq (.rg [o1 12 (.load 2 [] 0 .nil 15 false),
 o3 13 28 [.t 12],
 o5 (.a (.c Ty2 [kV 0,.slice none 0 0,.slice none 0 0,.slice none 0 0,.slice none 0 0,kV 0,kV 0,kV 0,kV 0,kV 0,kV 0,kV 0,.slice none 0 0,kV 0,.slice none 0 0])) 6 1000000001,
 o4 2 [6,13] (.store 6 [] 0 .nil (.t 13))])
 (.seq (.seq (.join [⟨39,[.b],false⟩] 1099511611392 none (.rg [o1 14 (.load 2 [] 0 .nil 15 false),
 o3 15 52 [.t 14],
 o1 16 (.data .not [.t 15]),
 oc 17 16,
 o2 18 (.idx .nil) 3 false,
 o2 19 (.load 3 [] 0 (.t 18) 1 false) 3 false,
 ⟨false,[],[],.call 1 50 [.t 19,kO 1,kO 100000] .no,[20],(some 20),some (3,false)⟩,
 o2 21 (.data .not [.t 20]) 3 false,
 o7 17 (.c (.bool true)) (.t 21) 22,
 oc 23 22,
 o2 24 (.load 2 [] 0 .nil 15 false) 9 false,
 o2 25 (.idx .nil) 9 false,
 o2 26 (.load 3 [] 0 (.t 25) 1 false) 9 false,
 ⟨false,[],[],.call 1 53 [.t 24,.t 26] .no,[27],(some 27),some (9,false)⟩,
 o2 28 (.data (.bin .geq) [.t 27,kD 0]) 9 false,
 o7 23 (.c (.bool true)) (.t 28) 29,
 oc 30 29,
 o2 31 (.load 2 [] 0 .nil 15 false) 16 false,
 ⟨false,[],[],.call 1 54 [.t 31] .no,[32],(some 32),some (16,false)⟩,
 o7 30 (.c (.bool true)) (.t 32) 33,
 oc 34 33,
 o2 35 (.idx .nil) 20 false,
 o2 36 (.load 2 [] 14 (.t 35) 1 false) 20 false,
 o2 37 (.len 36) 20 false,
 o2 38 (.data (.bin .geq) [.t 37,kD 80]) 20 false,
 o7 34 (.c (.bool true)) (.t 38) 39]))
 (.cond (.t 39)
 (.seq (.rg [o1 40 (.load 6 [] 0 .nil 15 true),
 ⟨false,[40],[],.det 2 (.store 4 [] 0 .nil (.t 40)),[4,40,40,6],none,none⟩,
 o1 5 (kL 0)])
 .ret)
 .skip))
 (.seq (.seq (.rg [o1 41 (.load 2 [] 0 .nil 15 false),
 o1 42 (.load 3 [] 0 .nil 4 false),
 o3 43 55 [.t 41,.t 42],
 o1 44 (.data .not [.t 43])])
 (.cond (.t 44)
 (.seq (.rg [o1 45 (.load 3 [] 0 .nil 4 false),
 ⟨false,[],[],.call 2 56 [.t 6,.t 45,kO 3] (.mp 0),[46,6],(some 46),none⟩])
 (.seq (.rg [o1 47 (.load 6 [] 0 .nil 15 true),
 ⟨false,[47],[],.det 2 (.store 4 [] 0 .nil (.t 47)),[4,47,47,6],none,none⟩,
 o1 5 (kL 1)])
 .ret))
 .skip))
 (.seq (.seq (.rg [oi 48,
 o1 49 (.load 3 [] 1 (.t 48) 1 false)])
 (.block 0 (.seq (.rg [o1 51 (.data (.bin .eql) [.t 49,kD 3]),
 oc 50 51])
 (.cond (.t 50)
 (.seq (.rg [oi 53,
 o1 54 (.load 2 [] 0 (.t 53) 1 false),
 oi 55,
 o1 56 (.load 2 [] 3 (.t 55) 1 false),
 oi 57,
 o1 58 (.load 2 [] 2 (.t 57) 1 false),
 o3 59 57 [.t 54,.t 56,.t 58],
 o5 (.copy 59) 52 59,
 o5 (.ext 52 0 1) 60 52,
 o1 61 (.ext 52 1 1),
 o5 (.copy 60) 7 60,
 oc 8 61])
 (.seq (.rg [o1 9 (kL 2)])
 (.seq (.join [⟨9,[.i .i64],false⟩] 9440121279720863040000 none (.seq (.rg [o6 62 7,
 oi 63,
 o1 64 (.load 3 [] 2 (.t 63) 1 false),
 o1 65 (.index 62 (.t 64)),
 o1 66 (.load 7 [(0,1)] 0 (.t 65) 1 false),
 o6 67 7,
 oi 68,
 o1 69 (.load 3 [] 3 (.t 68) 1 false),
 o1 70 (.index 67 (.t 69)),
 o1 71 (.load 7 [(0,1)] 0 (.t 70) 1 false),
 o1 72 (.data (.bin .eql) [.t 66,.t 71])])
 (.cond (.t 72)
 (.rg [o1 9 (kL 1)])
 .skip)))
 (.seq (.rg [o1 73 (.load 3 [] 0 .nil 4 false),
 oc 74 9,
 ⟨false,[],[],.call 2 56 [.t 6,.t 73,.t 74] (.mp 0),[75,6],(some 75),none⟩])
 (.seq (.rg [o1 76 (.load 6 [] 0 .nil 15 true),
 ⟨false,[76],[],.det 2 (.store 4 [] 0 .nil (.t 76)),[4,76,76,6],none,none⟩,
 o1 5 (kL 1)])
 .ret)))))
 (.seq (.rg [o1 78 (.data (.bin .eql) [.t 49,kD 4]),
 oc 77 78])
 (.cond (.t 77)
 (.seq (.seq (.rg [oi 79,
 o1 80 (.load 2 [] 1 (.t 79) 1 false),
 oi 81,
 o1 82 (.load 3 [] 2 (.t 81) 1 false),
 o1 83 (.index 80 (.t 82)),
 o1 84 (.load 80 [(0,1)] 0 (.t 83) 1 false),
 oi 85,
 o1 86 (.load 3 [] 3 (.t 85) 1 false),
 o1 87 (.data (.bin .eql) [.t 84,.t 86])])
 (.cond (.t 87)
 (.seq (.rg [o1 88 (.load 3 [] 0 .nil 4 false),
 ⟨false,[],[],.call 2 56 [.t 6,.t 88,kO 2] (.mp 0),[89,6],(some 89),none⟩])
 (.seq (.rg [o1 90 (.load 6 [] 0 .nil 15 true),
 ⟨false,[90],[],.det 2 (.store 4 [] 0 .nil (.t 90)),[4,90,90,6],none,none⟩,
 o1 5 (kL 1)])
 .ret))
 .skip))
 (.seq (.rg [⟨false,[],[1000000002],.det 1 (.load 3 [] 0 .nil 4 false),[91],(some 91),none⟩,
 ⟨false,[],[1000000002],.det 1 (.idx .nil),[92],(some 92),none⟩,
 ⟨false,[],[1000000002],.det 1 (.load 2 [] 1 (.t 92) 1 false),[93],(some 93),none⟩,
 ⟨false,[],[1000000002],.det 1 (.idx .nil),[94],(some 94),none⟩,
 ⟨false,[],[1000000002],.det 1 (.load 3 [] 2 (.t 94) 1 false),[95],(some 95),none⟩,
 ⟨false,[],[1000000002],.det 1 (.index 93 (.t 95)),[96],(some 96),none⟩,
 ⟨false,[],[1000000002],.det 1 (.load 93 [(0,1)] 0 (.t 96) 1 false),[97],(some 97),none⟩,
 oi 98,
 o1 99 (.load 3 [] 2 (.t 98) 1 false),
 o5 (.build Ty10 [(1,kO 3),(3,.t 99)]) 100 1000000002,
 ⟨false,[],[],.call 3 58 [.t 6,.t 91,.t 97,.t 100] (.mp 0),[101,6,100],(some 101),none⟩,
 oc 10 101])
 (.seq (.rg [o1 102 (.load 6 [] 0 .nil 15 true),
 oc 103 10,
 ⟨false,[102],[],.det 2 (.store 4 [] 0 .nil (.t 102)),[4,102,102,6],none,none⟩,
 oc 5 103])
 .ret)))
 .skip))))))
 (.seq (.rg [o1 104 (.load 3 [] 0 .nil 4 false),
 ⟨false,[],[],.call 2 59 [.t 6,.t 104] (.mp 0),[105,6],(some 105),none⟩,
 oc 11 105])
 (.seq (.rg [o1 106 (.load 6 [] 0 .nil 15 true),
 oc 107 11,
 ⟨false,[106],[],.det 2 (.store 4 [] 0 .nil (.t 106)),[4,106,106,6],none,none⟩,
 oc 5 107])
 .ret)))))))
def s_sTake:Sig:=⟨[.rd true Ct1,.rd true [.d,.d,.d,.d]],(.tup [(true,15),(false,1)] Ct0)⟩
def E_sTake:TEnv:=envOf [(28,p_sl12Copy),(52,p_sHeadOk),(50,p_sl01In),(53,p_sl12Said),(54,p_sBusy),(55,p_sl12Right),(56,p_sl12Say),(57,p_sWholeLabels),(58,p_sl12Task),(59,p_sl12Change)]
def f_sTake (n:Nat):(Int × List (Int) × List (Int × Int) × List (List (Int)) × List (Int) × Int × Int × Int × Int × Int × Int × Int × List (Int × Int) × Int × List (Int × Int × Int × Int × Int × Int)) × (Int × Int × Int × Int)->Option ((Int × List (Int) × List (Int × Int) × List (List (Int)) × List (Int) × Int × Int × Int × Int × Int × Int × Int × List (Int × Int) × Int × List (Int × Int × Int × Int × Int × Int) × Int) × Unit):=runFn n E_sTake c_sTake [Ty2,Ty11] Ty0 [] [4,5] .no
def g_sTake:=f_sTake BIG
def p_sTake:TSp:=⟨s_sTake,[Ty2,Ty11],Ty0,[],Ou.j .no,g_sTake⟩
theorem k_sTake:chkW PG E_sTake 26 s_sTake (c_sTake.ht 108) .no=some (c_sTake.wc E_sTake,[4,5]):=by kernel_rfl
theorem ok_sTake:p_sTake.Ok PG 26:=mkOk (env_cons ok_sl12Copy (env_cons ok_sHeadOk (env_cons ok_sl01In (env_cons ok_sl12Said (env_cons ok_sBusy (env_cons ok_sl12Right (env_cons ok_sl12Say (env_cons ok_sWholeLabels (env_cons ok_sl12Task (env_cons ok_sl12Change (env_nil PG))))))))))) k_sTake (by kernel_rfl)
theorem e_sTake (n) (a0) (a1):f_sTake n (a0,a1) =
 Option.bind (g_sl12Copy a0) fun r0=>
 Option.bind (Option.bind (g_sHeadOk a0) fun r1=>
 bif !r1.1 then
 some true
 else Option.bind (g_sl01In (a1.1,(1:Int),(100000:Int))) fun r2=>
 bif !r2.1 then
 some true
 else Option.bind (g_sl12Said (a0,a1.1)) fun r3=>
 bif decide ((0:Int)<=r3.1) then
 some true
 else Option.bind (g_sBusy a0) fun r4=>
 bif r4.1 then
 some true
 else some (decide ((80:Int)<=(a0.2.2.2.2.2.2.2.2.2.2.2.2.2.2.length:Int))):Option (Bool)) fun x5=>
 bif x5 then
 some ((r0.1.1,r0.1.2.1,r0.1.2.2.1,r0.1.2.2.2.1,r0.1.2.2.2.2.1,r0.1.2.2.2.2.2.1,r0.1.2.2.2.2.2.2.1,r0.1.2.2.2.2.2.2.2.1,r0.1.2.2.2.2.2.2.2.2.1,r0.1.2.2.2.2.2.2.2.2.2.1,r0.1.2.2.2.2.2.2.2.2.2.2.1,r0.1.2.2.2.2.2.2.2.2.2.2.2.1,r0.1.2.2.2.2.2.2.2.2.2.2.2.2.1,r0.1.2.2.2.2.2.2.2.2.2.2.2.2.2.1,r0.1.2.2.2.2.2.2.2.2.2.2.2.2.2.2,(0:Int)),())
 else Option.bind (g_sl12Right (a0,a1)) fun r6=>
 bif !r6.1 then
 Option.bind (g_sl12Say (r0.1,a1,(3:Int))) fun r7=>
 some ((r7.2.1,r7.2.2.1,r7.2.2.2.1,r7.2.2.2.2.1,r7.2.2.2.2.2.1,r7.2.2.2.2.2.2.1,r7.2.2.2.2.2.2.2.1,r7.2.2.2.2.2.2.2.2.1,r7.2.2.2.2.2.2.2.2.2.1,r7.2.2.2.2.2.2.2.2.2.2.1,r7.2.2.2.2.2.2.2.2.2.2.2.1,r7.2.2.2.2.2.2.2.2.2.2.2.2.1,r7.2.2.2.2.2.2.2.2.2.2.2.2.2.1,r7.2.2.2.2.2.2.2.2.2.2.2.2.2.2.1,r7.2.2.2.2.2.2.2.2.2.2.2.2.2.2.2,(1:Int)),())
 else bif decide (a1.2.1=(3:Int)) then
 Option.bind (g_sWholeLabels (a0.1,a0.2.2.2.1,a0.2.2.1)) fun r8=>
 Option.bind (bnd r8.1.1.length a1.2.2.1 fun n9=>
 Option.bind r8.1.1[n9]? fun y10=>
 bnd r8.1.1.length a1.2.2.2 fun n11=>
 Option.bind r8.1.1[n11]? fun y12=>
 bif decide (y10=y12) then
 some (1:Int)
 else some (2:Int):Option (Int)) fun x13=>
 Option.bind (g_sl12Say (r0.1,a1,x13)) fun r14=>
 some ((r14.2.1,r14.2.2.1,r14.2.2.2.1,r14.2.2.2.2.1,r14.2.2.2.2.2.1,r14.2.2.2.2.2.2.1,r14.2.2.2.2.2.2.2.1,r14.2.2.2.2.2.2.2.2.1,r14.2.2.2.2.2.2.2.2.2.1,r14.2.2.2.2.2.2.2.2.2.2.1,r14.2.2.2.2.2.2.2.2.2.2.2.1,r14.2.2.2.2.2.2.2.2.2.2.2.2.1,r14.2.2.2.2.2.2.2.2.2.2.2.2.2.1,r14.2.2.2.2.2.2.2.2.2.2.2.2.2.2.1,r14.2.2.2.2.2.2.2.2.2.2.2.2.2.2.2,(1:Int)),())
 else bif decide (a1.2.1=(4:Int)) then
 bnd a0.2.1.length a1.2.2.1 fun n15=>
 Option.bind a0.2.1[n15]? fun y16=>
 bif decide (y16=a1.2.2.2) then
 Option.bind (g_sl12Say (r0.1,a1,(2:Int))) fun r17=>
 some ((r17.2.1,r17.2.2.1,r17.2.2.2.1,r17.2.2.2.2.1,r17.2.2.2.2.2.1,r17.2.2.2.2.2.2.1,r17.2.2.2.2.2.2.2.1,r17.2.2.2.2.2.2.2.2.1,r17.2.2.2.2.2.2.2.2.2.1,r17.2.2.2.2.2.2.2.2.2.2.1,r17.2.2.2.2.2.2.2.2.2.2.2.1,r17.2.2.2.2.2.2.2.2.2.2.2.2.1,r17.2.2.2.2.2.2.2.2.2.2.2.2.2.1,r17.2.2.2.2.2.2.2.2.2.2.2.2.2.2.1,r17.2.2.2.2.2.2.2.2.2.2.2.2.2.2.2,(1:Int)),())
 else bnd a0.2.1.length a1.2.2.1 fun n18=>
 Option.bind a0.2.1[n18]? fun y19=>
 Option.bind (g_sl12Task (r0.1,a1,y19,((0:Int),(3:Int),[],a1.2.2.1))) fun r20=>
 some ((r20.2.1,r20.2.2.1,r20.2.2.2.1,r20.2.2.2.2.1,r20.2.2.2.2.2.1,r20.2.2.2.2.2.2.1,r20.2.2.2.2.2.2.2.1,r20.2.2.2.2.2.2.2.2.1,r20.2.2.2.2.2.2.2.2.2.1,r20.2.2.2.2.2.2.2.2.2.2.1,r20.2.2.2.2.2.2.2.2.2.2.2.1,r20.2.2.2.2.2.2.2.2.2.2.2.2.1,r20.2.2.2.2.2.2.2.2.2.2.2.2.2.1,r20.2.2.2.2.2.2.2.2.2.2.2.2.2.2.1,r20.2.2.2.2.2.2.2.2.2.2.2.2.2.2.2,r20.1),())
 else Option.bind (g_sl12Change (r0.1,a1)) fun r21=>
 some ((r21.2.1,r21.2.2.1,r21.2.2.2.1,r21.2.2.2.2.1,r21.2.2.2.2.2.1,r21.2.2.2.2.2.2.1,r21.2.2.2.2.2.2.2.1,r21.2.2.2.2.2.2.2.2.1,r21.2.2.2.2.2.2.2.2.2.1,r21.2.2.2.2.2.2.2.2.2.2.1,r21.2.2.2.2.2.2.2.2.2.2.2.1,r21.2.2.2.2.2.2.2.2.2.2.2.2.1,r21.2.2.2.2.2.2.2.2.2.2.2.2.2.1,r21.2.2.2.2.2.2.2.2.2.2.2.2.2.2.1,r21.2.2.2.2.2.2.2.2.2.2.2.2.2.2.2,r21.1),()):=by kernel_rfl
def c_sAnswerOk:TC:=
 (.seq (.rg [o1 3 (.a (.t 1)),
 o1 4 (.lit [.b] [.bool false])])
 (.seq (.join [⟨4,[.b],false⟩] 16777200 none (.rg [oc 5 0,
 o3 6 50 [.t 5,kO 1,kO 12],
 oc 7 6,
 o2 8 (.idx .nil) 2 true,
 o2 9 (.load 3 [] 0 (.t 8) 1 false) 2 true,
 ⟨false,[],[],.call 1 50 [.t 9,kO 1,kO 100000] .no,[10],(some 10),some (2,true)⟩,
 o7 7 (.t 10) (.c (.bool false)) 11,
 oc 12 11,
 o2 13 (.copy 0) 7 true,
 o2 14 (.idx .nil) 7 true,
 o2 15 (.load 3 [] 2 (.t 14) 1 false) 7 true,
 ⟨false,[],[],.call 1 82 [.t 13,.t 15] .no,[16],(some 16),some (7,true)⟩,
 o7 12 (.t 16) (.c (.bool false)) 17,
 oc 18 17,
 o2 19 (.copy 0) 13 true,
 o2 20 (.idx .nil) 13 true,
 o2 21 (.load 3 [] 3 (.t 20) 1 false) 13 true,
 ⟨false,[],[],.call 1 83 [.t 19,.t 21] .no,[22],(some 22),some (13,true)⟩,
 o7 18 (.t 22) (.c (.bool false)) 23,
 oc 4 23]))
 .ret))
def s_sAnswerOk:Sig:=⟨[.rd false [.d],.rd true Ct4],(.one false [.d])⟩
def E_sAnswerOk:TEnv:=envOf [(50,p_sl01In),(82,p_sl05Edges),(83,p_sl09Labels)]
def f_sAnswerOk (n:Nat):Int × (Int × Bool × List (Int × Int) × List (Int))->Option ((Bool) × Unit):=runFn n E_sAnswerOk c_sAnswerOk [[.i .i64],Ty9] [.b] [] [4] .no
def g_sAnswerOk:=f_sAnswerOk BIG
def p_sAnswerOk:TSp:=⟨s_sAnswerOk,[[.i .i64],Ty9],[.b],[],Ou.j .no,g_sAnswerOk⟩
theorem k_sAnswerOk:chkW PG E_sAnswerOk 60 s_sAnswerOk (c_sAnswerOk.ht 24) .no=some (c_sAnswerOk.wc E_sAnswerOk,[4]):=by kernel_rfl
theorem ok_sAnswerOk:p_sAnswerOk.Ok PG 60:=mkOk (env_cons ok_sl01In (env_cons ok_sl05Edges (env_cons ok_sl09Labels (env_nil PG)))) k_sAnswerOk (by kernel_rfl)
theorem e_sAnswerOk (n) (a0) (a1):f_sAnswerOk n (a0,a1) =
 Option.bind (Option.bind (g_sl01In (a0,(1:Int),(12:Int))) fun r0=>
 bif r0.1 then
 Option.bind (g_sl01In (a1.1,(1:Int),(100000:Int))) fun r1=>
 bif r1.1 then
 Option.bind (g_sl05Edges (a0,a1.2.2.1)) fun r2=>
 bif r2.1 then
 Option.bind (g_sl09Labels (a0,a1.2.2.2)) fun r3=>
 some r3.1
 else some false
 else some false
 else some false:Option (Bool)) fun x4=>
 some (x4,()):=by kernel_rfl
def c_sl12Say_r:TC:=
 (.seq (.rg [o1 4 (.a (.t 1))])
 (.seq (.rg [o1 6 (.p0),
 o1 7 (.p0),
 o1 8 (.same 7),
 o1 9 (.idx (.t 8)),
 o1 10 (.load 0 [] 14 (.t 9) 1 true),
 oi 11,
 o1 12 (.load 4 [] 0 (.t 11) 1 false),
 o1 13 (.load 4 [] 0 .nil 4 false),
 oc 14 2,
 o1 15 (.build Ty8 [(0,.t 12),(1,.t 13),(5,.t 14)]),
 o1 16 (.sli Ty8 [.t 15]),
 ⟨false,[10],[],.det 2 (.app (some 10) 16),[17,10,10,0],(some 17),none⟩,
 o1 18 (.same 6),
 o1 19 (.idx (.t 18)),
 o4 2 [0,17,10] (.store 0 [] 14 (.t 19) (.t 17))])
 (.rg [o1 20 (.p0),
 o1 21 (.build Ty5 []),
 o1 22 (.same 20),
 o1 23 (.idx (.t 22)),
 o4 2 [0,21] (.store 0 [] 5 (.t 23) (.t 21))])))
def s_sl12Say_r:Sig:=⟨[.mp [.d,.sl (.own none) [.d],.sl (.ro []) [.d,.d],.sl (.own none) Ct9,.sl (.own none) [.d],.d,.d,.d,.d,.d,.d,.d,.sl (.own none) [.d,.d],.d,.sl (.own none) Ct10],.rd true [.d,.d,.d,.d],.rd false [.d]],.u⟩
def E_sl12Say_r:TEnv:=envOf []
def f_sl12Say_r (n:Nat):(Int × List (Int) × List (Int × Int) × List (List (Int)) × List (Int) × Int × Int × Int × Int × Int × Int × Int × List (Int × Int) × Int × List (Int × Int × Int × Int × Int × Int)) × (Int × Int × Int × Int) × Int->Option ((Unit) × Int × List (Int) × List (Int × Int) × List (List (Int)) × List (Int) × Int × Int × Int × Int × Int × Int × Int × List (Int × Int) × Int × List (Int × Int × Int × Int × Int × Int)):=runFn n E_sl12Say_r c_sl12Say_r [Ty2,Ty11,[.i .i64]] [] Ty2 [] (.mp 0)
def g_sl12Say_r:=f_sl12Say_r BIG
def p_sl12Say_r:TSp:=⟨s_sl12Say_r,[Ty2,Ty11,[.i .i64]],[],Ty2,Ou.j (.mp 0),g_sl12Say_r⟩
theorem k_sl12Say_r:chkW PG E_sl12Say_r 56 s_sl12Say_r (c_sl12Say_r.ht 24) (.mp 0)=some (c_sl12Say_r.wc E_sl12Say_r,[]):=by kernel_rfl
theorem ok_sl12Say_r:p_sl12Say_r.Ok PG 56:=mkOk (env_nil PG) k_sl12Say_r (by kernel_rfl)
theorem e_sl12Say_r (n) (a0) (a1) (a2):f_sl12Say_r n (a0,a1,a2) =
 bif decide (a0.2.2.2.2.2.2.2.2.2.2.2.2.2.2.length+([(a1.1,a1.1,a1.2.1,a1.2.2.1,a1.2.2.2,a2)]).length<=4294967296) then
 some ((),(a0.1,a0.2.1,a0.2.2.1,a0.2.2.2.1,a0.2.2.2.2.1,(0:Int),(0:Int),(0:Int),(0:Int),(0:Int),(0:Int),(0:Int),[],(0:Int),a0.2.2.2.2.2.2.2.2.2.2.2.2.2.2++([(a1.1,a1.1,a1.2.1,a1.2.2.1,a1.2.2.2,a2)])))
 else none:=by kernel_rfl
def c_sInside:TC:=
 (.seq (.rg [o1 6 (.lit [.sl [.i .i64,.i .i64]] [.slice none 0 0])])
 (.seq (.rg [o1 10 (.sli [.i .i64,.i .i64] []),
 o5 (.copy 10) 7 10])
 (.seq (.join [⟨7,[.sl [.i .i64,.i .i64]],false⟩] 144115188075854720 none (.seq (.rg [o1 8 (kL 0)])
 (.block 0 (.loop [⟨7,[.sl [.i .i64,.i .i64]],false⟩,⟨8,[.i .i64],false⟩] 144115188075854720
 (.seq (.seq (.rg [oc 11 8,
 oc 12 1,
 o1 13 (.len 12),
 o1 14 (.data (.bin .lss) [.t 11,.t 13])])
 (.cond (.t 14)
 .skip
 (.exit 0)))
 (.seq (.join [⟨7,[.sl [.i .i64,.i .i64]],false⟩] 144115188075725440 none (.block 1 (.seq (.rg [oc 17 1,
 oc 18 8,
 o1 19 (.index 17 (.t 18)),
 o1 20 (.load 17 [(0,2)] 0 (.t 19) 2 false),
 o5 (.a (.c [.i .i64,.i .i64] [kV 0,kV 0])) 9 1000000001,
 o4 1 [9] (.store 9 [] 0 .nil (.t 20))])
 (.seq (.join [⟨52,[.b],false⟩] 9007199252643840 none (.rg [oi 21,
 o1 22 (.load 9 [] 0 (.t 21) 1 false),
 oc 23 0,
 o1 24 (.len 23),
 o1 25 (.data (.bin .sub) [.t 24,kD 1]),
 o3 26 50 [.t 22,kO 0,.t 25],
 oc 27 26,
 o2 28 (.idx .nil) 6 true,
 o2 29 (.load 9 [] 1 (.t 28) 1 false) 6 true,
 o2 30 (.copy 0) 6 true,
 o2 31 (.len 30) 6 true,
 o2 32 (.data (.bin .sub) [.t 31,kD 1]) 6 true,
 ⟨false,[],[],.call 1 50 [.t 29,kO 0,.t 32] .no,[33],(some 33),some (6,true)⟩,
 o7 27 (.t 33) (.c (.bool false)) 34,
 oc 35 34,
 o2 36 (.copy 0) 14 true,
 o2 37 (.idx .nil) 14 true,
 o2 38 (.load 9 [] 0 (.t 37) 1 false) 14 true,
 o2 39 (.index 36 (.t 38)) 14 true,
 o2 40 (.load 36 [(0,1)] 0 (.t 39) 1 false) 14 true,
 o2 41 (.copy 2) 14 true,
 o2 42 (.data (.bin .eql) [.t 40,.t 41]) 14 true,
 o7 35 (.t 42) (.c (.bool false)) 43,
 oc 44 43,
 o2 45 (.copy 0) 23 true,
 o2 46 (.idx .nil) 23 true,
 o2 47 (.load 9 [] 1 (.t 46) 1 false) 23 true,
 o2 48 (.index 45 (.t 47)) 23 true,
 o2 49 (.load 45 [(0,1)] 0 (.t 48) 1 false) 23 true,
 o2 50 (.copy 2) 23 true,
 o2 51 (.data (.bin .eql) [.t 49,.t 50]) 23 true,
 o7 44 (.t 51) (.c (.bool false)) 52]))
 (.cond (.t 52)
 (.rg [o5 (.copy 7) 53 7,
 o1 54 (.load 9 [] 0 .nil 2 false),
 o1 55 (.sli [.i .i64,.i .i64] [.t 54]),
 o5 (.app (some 53) 55) 56 53,
 o5 (.copy 56) 7 56])
 .skip)))))
 (.rg [oc 15 8,
 o1 16 (.data (.bin .add) [.t 15,kD 1]),
 oc 8 16])))))))
 (.seq (.rg [o5 (.copy 7) 57 7,
 o5 (.copy 57) 6 57])
 .ret))))
def s_sInside:Sig:=⟨[.rd false Ct9,.rd false Ct8,.rd false [.d]],(.one false Ct8)⟩
def E_sInside:TEnv:=envOf [(50,p_sl01In)]
def f_sInside (n:Nat):List (Int) × (List (Int × Int)) × Int->Option ((List (Int × Int)) × Unit):=runFn n E_sInside c_sInside [[.sl [.i .i64]],[.sl [.i .i64,.i .i64]],[.i .i64]] [.sl [.i .i64,.i .i64]] [] [6] .no
def g_sInside:=f_sInside BIG
def p_sInside:TSp:=⟨s_sInside,[[.sl [.i .i64]],[.sl [.i .i64,.i .i64]],[.i .i64]],[.sl [.i .i64,.i .i64]],[],Ou.j .no,g_sInside⟩
theorem k_sInside:chkW PG E_sInside 90 s_sInside (c_sInside.ht 58) .no=some (c_sInside.wc E_sInside,[6]):=by kernel_rfl
theorem ok_sInside:p_sInside.Ok PG 90:=mkOk (env_cons ok_sl01In (env_nil PG)) k_sInside (by kernel_rfl)
theorem e_sInside (n) (a0) (a1) (a2):f_sInside n (a0,a1,a2) =
 Option.bind (loopT n (X:=(List (Int × Int)) × Int) (B:=(List (Int × Int))) (fun self1 x0=>
 bif decide (x0.2<(a1.length:Int)) then
 Option.bind (bnd a1.length x0.2 fun n2=>
 Option.bind a1[n2]? fun y3=>
 Option.bind (Option.bind (g_sl01In (y3.1,(0:Int),IntKind.wrap .i64 ((a0.length:Int)-(1:Int)))) fun r4=>
 bif r4.1 then
 Option.bind (g_sl01In (y3.2,(0:Int),IntKind.wrap .i64 ((a0.length:Int)-(1:Int)))) fun r5=>
 bif r5.1 then
 bnd a0.length y3.1 fun n6=>
 Option.bind a0[n6]? fun y7=>
 bif decide (y7=a2) then
 bnd a0.length y3.2 fun n8=>
 Option.bind a0[n8]? fun y9=>
 some (decide (y9=a2))
 else some false
 else some false
 else some false:Option (Bool)) fun x10=>
 bif x10 then
 bif decide (x0.1.length+[y3].length<=4294967296) then
 some (x0.1++[y3])
 else none
 else some x0.1:Option ((List (Int × Int)))) fun x11=>
 self1 (x11,IntKind.wrap .i64 (x0.2+(1:Int)))
 else some x0.1) ([],(0:Int)):Option ((List (Int × Int)))) fun x12=>
 some (x12,()):=by kernel_rfl
def c_sl12Task_r:TC:=
 (.seq (.rg [o1 5 (.a (.t 1)),
 o5 (.a (.t 3)) 7 3,
 o1 8 (kL 0)])
 (.seq (.rg [o1 9 (.p0),
 o1 10 (.same 9),
 o1 11 (.idx (.t 10)),
 o1 12 (.load 0 [] 4 (.t 11) 1 true),
 oc 13 2,
 o1 14 (.data (.bin .sub) [.t 13,kD 1]),
 o1 15 (.index 12 (.t 14)),
 o1 16 (.load 0 [(4,1)] 0 (.t 15) 1 false),
 o1 17 (.data (.bin .add) [.t 16,kD 1]),
 oi 18,
 o4 1 [7] (.store 7 [] 0 (.t 18) (.t 17))])
 (.seq (.rg [o1 19 (.p0),
 o1 20 (.load 5 [] 0 .nil 4 false),
 oc 21 2,
 o1 22 (.load 7 [] 0 .nil 4 true),
 ⟨false,[22],[],.det 2 (.build Ty5 [(0,.t 20),(4,.t 21),(5,.t 22)]),[23,22,22,7],(some 23),none⟩,
 o1 24 (.same 19),
 o1 25 (.idx (.t 24)),
 o4 2 [0,23,12,15] (.store 0 [] 5 (.t 25) (.t 23))])
 (.seq (.rg [o1 8 (kL 2)])
 .ret))))
def s_sl12Task_r:Sig:=⟨[.mp [.d,.sl (.own none) [.d],.sl (.ro []) [.d,.d],.sl (.own none) Ct9,.sl (.own none) [.d],.d,.d,.d,.d,.d,.d,.d,.sl (.own none) [.d,.d],.d,.sl (.own none) Ct10],.rd true [.d,.d,.d,.d],.rd false [.d],.tk true Ct7],(.one false [.d])⟩
def E_sl12Task_r:TEnv:=envOf []
def f_sl12Task_r (n:Nat):(Int × List (Int) × List (Int × Int) × List (List (Int)) × List (Int) × Int × Int × Int × Int × Int × Int × Int × List (Int × Int) × Int × List (Int × Int × Int × Int × Int × Int)) × (Int × Int × Int × Int) × Int × (Int × Int × List (Int × Int) × Int)->Option ((Int) × Int × List (Int) × List (Int × Int) × List (List (Int)) × List (Int) × Int × Int × Int × Int × Int × Int × Int × List (Int × Int) × Int × List (Int × Int × Int × Int × Int × Int)):=runFn n E_sl12Task_r c_sl12Task_r [Ty2,Ty11,[.i .i64],Ty10] [.i .i64] Ty2 [8] (.mp 0)
def g_sl12Task_r:=f_sl12Task_r BIG
def p_sl12Task_r:TSp:=⟨s_sl12Task_r,[Ty2,Ty11,[.i .i64],Ty10],[.i .i64],Ty2,Ou.j (.mp 0),g_sl12Task_r⟩
theorem k_sl12Task_r:chkW PG E_sl12Task_r 58 s_sl12Task_r (c_sl12Task_r.ht 26) (.mp 0)=some (c_sl12Task_r.wc E_sl12Task_r,[8]):=by kernel_rfl
theorem ok_sl12Task_r:p_sl12Task_r.Ok PG 58:=mkOk (env_nil PG) k_sl12Task_r (by kernel_rfl)
theorem e_sl12Task_r (n) (a0) (a1) (a2) (a3):f_sl12Task_r n (a0,a1,a2,a3) =
 bnd a0.2.2.2.2.1.length (IntKind.wrap .i64 (a2-(1:Int))) fun n0=>
 Option.bind a0.2.2.2.2.1[n0]? fun y1=>
 some ((2:Int),(a0.1,a0.2.1,a0.2.2.1,a0.2.2.2.1,a0.2.2.2.2.1,a1.1,a1.2.1,a1.2.2.1,a1.2.2.2,a2,IntKind.wrap .i64 (y1+(1:Int)),a3.2.1,a3.2.2.1,a3.2.2.2,a0.2.2.2.2.2.2.2.2.2.2.2.2.2.2)):=by kernel_rfl
def c_sl12Moved:TC:=
 (.seq (.rg [o1 4 (.a (.t 1)),
 o1 6 (kL 0)])
 (.seq (.rg [o1 11 (.p0),
 o1 12 (.same 11),
 o1 13 (.idx (.t 12)),
 o1 14 (.load 0 [] 2 (.t 13) 1 false),
 oc 7 14])
 (.seq (.join [⟨0,Ty2,false⟩,⟨7,[.sl [.i .i64,.i .i64]],false⟩] 68719444417 (some [⟨6,[.i .i64],false⟩,⟨0,Ty2,false⟩]) (.seq (.rg [o1 8 (kL 0)])
 (.block 0 (.loop [⟨0,Ty2,false⟩,⟨7,[.sl [.i .i64,.i .i64]],false⟩,⟨8,[.i .i64],false⟩] 68719444417
 (.seq (.seq (.rg [oc 15 8,
 oc 16 2,
 o1 17 (.len 16),
 o1 18 (.data (.bin .lss) [.t 15,.t 17])])
 (.cond (.t 18)
 .skip
 (.exit 0)))
 (.seq (.block 1 (.seq (.seq (.rg [oc 21 7,
 oc 22 2,
 oc 23 8,
 o1 24 (.index 22 (.t 23)),
 o1 25 (.load 22 [(0,2)] 0 (.t 24) 2 false),
 o3 26 87 [.t 21,.t 25]])
 (.cond (.t 26)
 (.seq (.rg [o1 27 (.p0),
 o1 28 (.load 4 [] 0 .nil 4 false),
 ⟨false,[],[],.call 2 56 [.t 0,.t 28,kO 3] (.mp 0),[29,0],(some 29),none⟩])
 (.seq (.rg [o1 6 (kL 1)])
 .ret))
 .skip))
 (.rg [oc 30 7,
 oc 31 2,
 oc 32 8,
 o1 33 (.index 31 (.t 32)),
 o1 34 (.load 31 [(0,2)] 0 (.t 33) 2 false),
 o3 35 89 [.t 30,.t 34],
 ⟨false,[35],[],.det 1 (.copy 35),[7,35],(some 7),none⟩])))
 (.rg [oc 19 8,
 o1 20 (.data (.bin .add) [.t 19,kD 1]),
 oc 8 20])))))))
 (.seq (.rg [o1 36 (.p0),
 o1 37 (.same 36),
 o1 38 (.idx (.t 37)),
 o1 39 (.load 0 [] 1 (.t 38) 1 true),
 oi 40,
 o1 41 (.load 4 [] 2 (.t 40) 1 false),
 oi 42,
 o1 43 (.load 4 [] 3 (.t 42) 1 false),
 o1 44 (.index 39 (.t 41)),
 o4 1 [0,39] (.store 0 [(1,1)] 0 (.t 44) (.t 43))])
 (.seq (.rg [o1 45 (.p0),
 o1 46 (.same 45),
 o1 47 (.idx (.t 46)),
 o1 48 (.load 0 [] 1 (.t 47) 1 true),
 oc 49 7,
 oi 50,
 o1 51 (.load 4 [] 3 (.t 50) 1 false),
 o3 52 90 [.t 48,.t 49,.t 51],
 o5 (.copy 52) 9 52])
 (.seq (.join [⟨7,[.sl [.i .i64,.i .i64]],false⟩] 36884480948164363392 none (.seq (.rg [o1 10 (kL 0)])
 (.block 2 (.loop [⟨7,[.sl [.i .i64,.i .i64]],false⟩,⟨10,[.i .i64],false⟩] 36884480948164363392
 (.seq (.seq (.rg [oc 53 10,
 o6 54 9,
 o1 55 (.len 54),
 o1 56 (.data (.bin .lss) [.t 53,.t 55])])
 (.cond (.t 56)
 .skip
 (.exit 2)))
 (.seq (.block 3 (.rg [oc 59 7,
 o6 60 9,
 oc 61 10,
 o1 62 (.index 60 (.t 61)),
 o1 63 (.load 9 [(0,2)] 0 (.t 62) 2 false),
 o3 64 88 [.t 59,.t 63],
 ⟨false,[64],[],.det 1 (.copy 64),[7,64],(some 7),none⟩]))
 (.rg [oc 57 10,
 o1 58 (.data (.bin .add) [.t 57,kD 1]),
 oc 10 58])))))))
 (.seq (.rg [o1 65 (.p0),
 oc 66 7,
 o1 67 (.same 65),
 o1 68 (.idx (.t 67)),
 o4 1 [0,44,48] (.store 0 [] 2 (.t 68) (.t 66))])
 (.seq (.seq (.rg [o6 69 9,
 o1 70 (.len 69),
 o1 71 (.data (.bin .eql) [.t 70,kD 0])])
 (.cond (.t 71)
 (.seq (.rg [o1 72 (.p0),
 o1 73 (.load 4 [] 0 .nil 4 false),
 ⟨false,[],[],.call 2 56 [.t 0,.t 73,kO 1] (.mp 0),[74,0],(some 74),none⟩])
 (.seq (.rg [o1 6 (kL 1)])
 .ret))
 .skip))
 (.seq (.rg [o1 75 (.p0),
 o1 76 (.load 4 [] 0 .nil 4 false),
 oi 77,
 o1 78 (.load 4 [] 3 (.t 77) 1 false),
 ⟨false,[],[],.det 2 (.copy 9),[79,9,54,69],(some 79),none⟩,
 ⟨false,[],[],.det 3 (.build Ty10 [(1,kO 4),(2,.t 79)]),[80,1000000002,79],(some 80),none⟩,
 ⟨false,[],[],.call 3 58 [.t 0,.t 76,.t 78,.t 80] (.mp 0),[81,0,80],(some 81),none⟩,
 oc 6 81])
 .ret)))))))))
def s_sl12Moved:Sig:=⟨[.mp [.d,.sl (.own none) [.d],.sl (.ro []) [.d,.d],.sl (.own none) Ct9,.sl (.own none) [.d],.d,.d,.d,.d,.d,.d,.d,.sl (.own none) [.d,.d],.d,.sl (.own none) Ct10],.rd true [.d,.d,.d,.d],.rd false Ct8],(.one false [.d])⟩
def E_sl12Moved:TEnv:=envOf [(87,p_sl05Has),(56,p_sl12Say_r),(89,p_sl05Put),(90,p_sInside),(88,p_sl05Without),(58,p_sl12Task_r)]
def f_sl12Moved (n:Nat):(Int × List (Int) × List (Int × Int) × List (List (Int)) × List (Int) × Int × Int × Int × Int × Int × Int × Int × List (Int × Int) × Int × List (Int × Int × Int × Int × Int × Int)) × (Int × Int × Int × Int) × (List (Int × Int))->Option ((Int) × Int × List (Int) × List (Int × Int) × List (List (Int)) × List (Int) × Int × Int × Int × Int × Int × Int × Int × List (Int × Int) × Int × List (Int × Int × Int × Int × Int × Int)):=runFn n E_sl12Moved c_sl12Moved [Ty2,Ty11,[.sl [.i .i64,.i .i64]]] [.i .i64] Ty2 [6] (.mp 0)
def g_sl12Moved:=f_sl12Moved BIG
def p_sl12Moved:TSp:=⟨s_sl12Moved,[Ty2,Ty11,[.sl [.i .i64,.i .i64]]],[.i .i64],Ty2,Ou.j (.mp 0),g_sl12Moved⟩
theorem k_sl12Moved:chkW PG E_sl12Moved 61 s_sl12Moved (c_sl12Moved.ht 82) (.mp 0)=some (c_sl12Moved.wc E_sl12Moved,[6]):=by kernel_rfl
theorem ok_sl12Moved:p_sl12Moved.Ok PG 61:=mkOk (env_cons ok_sl05Has (env_cons ok_sl12Say_r (env_cons ok_sl05Put (env_cons ok_sInside (env_cons ok_sl05Without (env_cons ok_sl12Task_r (env_nil PG))))))) k_sl12Moved (by kernel_rfl)
theorem e_sl12Moved (n) (a0) (a1) (a2):f_sl12Moved n (a0,a1,a2) =
 Option.bind (loopT n (X:=(Int × List (Int) × List (Int × Int) × List ((List (Int))) × List (Int) × Int × Int × Int × Int × Int × Int × Int × List (Int × Int) × Int × List (Int × Int × Int × Int × Int × Int)) × (List (Int × Int)) × Int) (B:=((Int × List (Int) × List (Int × Int) × List ((List (Int))) × List (Int) × Int × Int × Int × Int × Int × Int × Int × List (Int × Int) × Int × List (Int × Int × Int × Int × Int × Int)) × (List (Int × Int))) ⊕ (Int × (Int × List (Int) × List (Int × Int) × List ((List (Int))) × List (Int) × Int × Int × Int × Int × Int × Int × Int × List (Int × Int) × Int × List (Int × Int × Int × Int × Int × Int)))) (fun self1 x0=>
  bif decide (x0.2.2<(a2.length:Int)) then
   bnd a2.length x0.2.2 fun n2=>
   Option.bind a2[n2]? fun y3=>
   Option.bind (g_sl05Has (x0.2.1,y3)) fun r4=>
   bif r4.1 then
    Option.bind (g_sl12Say_r (x0.1,a1,(3:Int))) fun r5=>
    some (Sum.inr ((1:Int),r5.2))
   else bnd a2.length x0.2.2 fun n6=>
   Option.bind a2[n6]? fun y7=>
   Option.bind (g_sl05Put (x0.2.1,y7)) fun r8=>
   self1 (x0.1,r8.1,IntKind.wrap .i64 (x0.2.2+(1:Int)))
  else some (Sum.inl (x0.1,x0.2.1))) (a0,a0.2.2.1,(0:Int)):Option (((Int × List (Int) × List (Int × Int) × List ((List (Int))) × List (Int) × Int × Int × Int × Int × Int × Int × Int × List (Int × Int) × Int × List (Int × Int × Int × Int × Int × Int)) × (List (Int × Int))) ⊕ (Int × (Int × List (Int) × List (Int × Int) × List ((List (Int))) × List (Int) × Int × Int × Int × Int × Int × Int × Int × List (Int × Int) × Int × List (Int × Int × Int × Int × Int × Int))))) fun y=>match y with
 | .inl x9=>
  bnd x9.1.2.1.length a1.2.2.1 fun n10=>
  Option.bind x9.1.2.1[n10]? fun y11=>
  Option.bind (g_sInside (x9.1.2.1.set n10 a1.2.2.2,x9.2,a1.2.2.2)) fun r12=>
  Option.bind (loopT n (X:=(List (Int × Int)) × Int) (B:=(List (Int × Int))) (fun self14 x13=>
   bif decide (x13.2<(r12.1.length:Int)) then
    bnd r12.1.length x13.2 fun n15=>
    Option.bind r12.1[n15]? fun y16=>
    Option.bind (g_sl05Without (x13.1,y16)) fun r17=>
    self14 (r17.1,IntKind.wrap .i64 (x13.2+(1:Int)))
   else some x13.1) (x9.2,(0:Int)):Option ((List (Int × Int)))) fun x18=>
  bif decide ((r12.1.length:Int)=(0:Int)) then
   Option.bind (g_sl12Say_r ((x9.1.1,x9.1.2.1.set n10 a1.2.2.2,x18,x9.1.2.2.2),a1,(1:Int))) fun r19=>
   some ((1:Int),r19.2)
  else Option.bind (g_sl12Task_r ((x9.1.1,x9.1.2.1.set n10 a1.2.2.2,x18,x9.1.2.2.2),a1,a1.2.2.2,((0:Int),(4:Int),r12.1,(0:Int)))) fun r20=>
  some (r20.1,r20.2)
 | .inr x9=>
  some (x9.1,x9.2):=by kernel_rfl
def c_sHear:TC:=
 (.seq (.rg [o1 3 (.a (.t 0)),
 o1 5 (.a (.t 2)),
 o5 (.a (.c Ty2 [kV 0,.slice none 0 0,.slice none 0 0,.slice none 0 0,.slice none 0 0,kV 0,kV 0,kV 0,kV 0,kV 0,kV 0,kV 0,.slice none 0 0,kV 0,.slice none 0 0])) 6 1000000001,
 o1 7 (kL 0)])
 (.seq (.rg [o1 12 (.load 3 [] 0 .nil 15 false),
 o3 13 28 [.t 12],
 o5 (.a (.c Ty2 [kV 0,.slice none 0 0,.slice none 0 0,.slice none 0 0,.slice none 0 0,kV 0,kV 0,kV 0,kV 0,kV 0,kV 0,kV 0,.slice none 0 0,kV 0,.slice none 0 0])) 8 1000000001,
 o4 2 [8,13] (.store 8 [] 0 .nil (.t 13))])
 (.seq (.seq (.join [⟨44,[.b],false⟩] 35184372072448 none (.rg [o1 14 (.load 3 [] 0 .nil 15 false),
 o3 15 52 [.t 14],
 o1 16 (.data .not [.t 15]),
 oc 17 16,
 o2 18 (.idx .nil) 3 false,
 o2 19 (.load 3 [] 0 (.t 18) 1 false) 3 false,
 o2 20 (.load 5 [] 0 .nil 4 false) 3 false,
 ⟨false,[],[],.call 1 60 [.t 19,.t 20] .no,[21],(some 21),some (3,false)⟩,
 o2 22 (.data .not [.t 21]) 3 false,
 o7 17 (.c (.bool true)) (.t 22) 23,
 oc 24 23,
 o2 25 (.load 3 [] 0 .nil 15 false) 10 false,
 ⟨false,[],[],.call 1 54 [.t 25] .no,[26],(some 26),some (10,false)⟩,
 o2 27 (.data .not [.t 26]) 10 false,
 o7 24 (.c (.bool true)) (.t 27) 28,
 oc 29 28,
 o2 30 (.copy 1) 15 false,
 o2 31 (.idx .nil) 15 false,
 o2 32 (.idx (.t 31)) 15 false,
 o2 33 (.load 3 [] 9 (.t 32) 1 false) 15 false,
 o2 34 (.data (.bin .neq) [.t 30,.t 33]) 15 false,
 o7 29 (.c (.bool true)) (.t 34) 35,
 oc 36 35,
 o2 37 (.idx .nil) 22 false,
 o2 38 (.load 5 [] 0 (.t 37) 1 false) 22 false,
 o2 39 (.idx .nil) 22 false,
 o2 40 (.idx (.t 39)) 22 false,
 o2 41 (.idx (.t 40)) 22 false,
 o2 42 (.load 3 [] 10 (.t 41) 1 false) 22 false,
 o2 43 (.data (.bin .neq) [.t 38,.t 42]) 22 false,
 o7 36 (.c (.bool true)) (.t 43) 44]))
 (.cond (.t 44)
 (.seq (.rg [o1 45 (.load 8 [] 0 .nil 15 true),
 ⟨false,[45],[],.det 2 (.store 6 [] 0 .nil (.t 45)),[6,45,45,8],none,none⟩,
 o1 7 (kL 0)])
 .ret)
 .skip))
 (.seq (.rg [oi 46,
 o1 47 (.load 3 [] 5 (.t 46) 9 false),
 o5 (.a (.c Ty5 [kV 0,kV 0,kV 0,kV 0,kV 0,kV 0,kV 0,.slice none 0 0,kV 0])) 9 1000000001,
 o4 1 [9] (.store 9 [] 0 .nil (.t 47))])
 (.seq (.rg [oi 48,
 o1 49 (.load 8 [] 4 (.t 48) 1 true),
 oc 50 1,
 o1 51 (.data (.bin .sub) [.t 50,kD 1]),
 oi 52,
 o1 53 (.load 5 [] 0 (.t 52) 1 false),
 o1 54 (.index 49 (.t 51)),
 o4 1 [8,49] (.store 8 [(4,1)] 0 (.t 54) (.t 53))])
 (.seq (.rg [oi 55,
 o1 56 (.load 8 [] 3 (.t 55) 1 true),
 oc 57 1,
 o1 58 (.data (.bin .sub) [.t 57,kD 1]),
 o1 59 (.sli [.i .i64] []),
 oi 60,
 o1 61 (.load 5 [] 3 (.t 60) 1 false),
 o5 (.app (some 59) 61) 62 59,
 o1 63 (.index 56 (.t 58)),
 o4 2 [8,62,48,54,63,56,55] (.store 8 [(3,1)] 0 (.t 63) (.t 62))])
 (.seq (.seq (.join [⟨73,[.b],false⟩] 18871019187404871303168 none (.rg [oi 64,
 o1 65 (.idx (.t 64)),
 o1 66 (.load 9 [] 1 (.t 65) 1 false),
 o1 67 (.data (.bin .eql) [.t 66,kD 4]),
 oc 68 67,
 o2 69 (.idx .nil) 4 true,
 o2 70 (.idx (.t 69)) 4 true,
 o2 71 (.load 9 [] 6 (.t 70) 1 false) 4 true,
 o2 72 (.data (.bin .eql) [.t 71,kD 3]) 4 true,
 o7 68 (.t 72) (.c (.bool false)) 73]))
 (.cond (.t 73)
 (.seq (.rg [oi 74,
 o1 75 (.load 9 [] 0 (.t 74) 4 false),
 oi 76,
 o1 77 (.load 5 [] 2 (.t 76) 1 false),
 ⟨false,[],[3000008002],.call 2 61 [.t 8,.t 75,.t 77] (.mp 0),[78,8,8],(some 78),none⟩,
 oc 10 78])
 (.seq (.rg [o1 79 (.load 8 [] 0 .nil 15 true),
 o3 80 28 [.t 79],
 oc 81 10,
 o4 2 [6,80] (.store 6 [] 0 .nil (.t 80)),
 oc 7 81])
 .ret))
 .skip))
 (.seq (.rg [o1 11 (kL 1)])
 (.seq (.join [⟨11,[.i .i64],false⟩] 2471044375292302033099425792 none (.seq (.join [⟨90,[.b],false⟩] 2471044375292302033099423744 none (.rg [oi 82,
 o1 83 (.idx (.t 82)),
 o1 84 (.load 9 [] 1 (.t 83) 1 false),
 o1 85 (.data (.bin .neq) [.t 84,kD 4]),
 oc 86 85,
 o2 87 (.idx .nil) 4 true,
 o2 88 (.load 5 [] 1 (.t 87) 1 false) 4 true,
 o2 89 (.data .not [.t 88]) 4 true,
 o7 86 (.t 89) (.c (.bool false)) 90]))
 (.cond (.t 90)
 (.rg [o1 11 (kL 2)])
 .skip)))
 (.seq (.rg [oi 91,
 o1 92 (.load 9 [] 0 (.t 91) 4 false),
 oc 93 11,
 ⟨false,[],[],.call 2 56 [.t 8,.t 92,.t 93] (.mp 0),[94,8],(some 94),none⟩])
 (.seq (.rg [o1 95 (.load 8 [] 0 .nil 15 true),
 ⟨false,[95],[],.det 2 (.store 6 [] 0 .nil (.t 95)),[6,95,95,8],none,none⟩,
 o1 7 (kL 1)])
 .ret)))))))))))
def s_sHear:Sig:=⟨[.rd true Ct1,.rd false [.d],.rd true Ct4],(.tup [(true,15),(false,1)] Ct0)⟩
def E_sHear:TEnv:=envOf [(28,p_sl12Copy),(52,p_sHeadOk),(60,p_sAnswerOk),(54,p_sBusy),(61,p_sl12Moved),(56,p_sl12Say)]
def f_sHear (n:Nat):(Int × List (Int) × List (Int × Int) × List (List (Int)) × List (Int) × Int × Int × Int × Int × Int × Int × Int × List (Int × Int) × Int × List (Int × Int × Int × Int × Int × Int)) × Int × (Int × Bool × List (Int × Int) × List (Int))->Option ((Int × List (Int) × List (Int × Int) × List (List (Int)) × List (Int) × Int × Int × Int × Int × Int × Int × Int × List (Int × Int) × Int × List (Int × Int × Int × Int × Int × Int) × Int) × Unit):=runFn n E_sHear c_sHear [Ty2,[.i .i64],Ty9] Ty0 [] [6,7] .no
def g_sHear:=f_sHear BIG
def p_sHear:TSp:=⟨s_sHear,[Ty2,[.i .i64],Ty9],Ty0,[],Ou.j .no,g_sHear⟩
theorem k_sHear:chkW PG E_sHear 27 s_sHear (c_sHear.ht 96) .no=some (c_sHear.wc E_sHear,[6,7]):=by kernel_rfl
theorem ok_sHear:p_sHear.Ok PG 27:=mkOk (env_cons ok_sl12Copy (env_cons ok_sHeadOk (env_cons ok_sAnswerOk (env_cons ok_sBusy (env_cons ok_sl12Moved (env_cons ok_sl12Say (env_nil PG))))))) k_sHear (by kernel_rfl)
theorem e_sHear (n) (a0) (a1) (a2):f_sHear n (a0,a1,a2) =
 Option.bind (g_sl12Copy a0) fun r0=>
 Option.bind (Option.bind (g_sHeadOk a0) fun r1=>
 bif !r1.1 then
 some true
 else Option.bind (g_sAnswerOk (a0.1,a2)) fun r2=>
 bif !r2.1 then
 some true
 else Option.bind (g_sBusy a0) fun r3=>
 bif !r3.1 then
 some true
 else bif !decide (a1=a0.2.2.2.2.2.2.2.2.2.1) then
 some true
 else some (!decide (a2.1=a0.2.2.2.2.2.2.2.2.2.2.1)):Option (Bool)) fun x4=>
 bif x4 then
 some ((r0.1.1,r0.1.2.1,r0.1.2.2.1,r0.1.2.2.2.1,r0.1.2.2.2.2.1,r0.1.2.2.2.2.2.1,r0.1.2.2.2.2.2.2.1,r0.1.2.2.2.2.2.2.2.1,r0.1.2.2.2.2.2.2.2.2.1,r0.1.2.2.2.2.2.2.2.2.2.1,r0.1.2.2.2.2.2.2.2.2.2.2.1,r0.1.2.2.2.2.2.2.2.2.2.2.2.1,r0.1.2.2.2.2.2.2.2.2.2.2.2.2.1,r0.1.2.2.2.2.2.2.2.2.2.2.2.2.2.1,r0.1.2.2.2.2.2.2.2.2.2.2.2.2.2.2,(0:Int)),())
 else bnd r0.1.2.2.2.2.1.length (IntKind.wrap .i64 (a1-(1:Int))) fun n5=>
 Option.bind r0.1.2.2.2.2.1[n5]? fun y6=>
 bif decide (0+a2.2.2.2.length<=4294967296) then
 bnd r0.1.2.2.2.1.length (IntKind.wrap .i64 (a1-(1:Int))) fun n7=>
 Option.bind r0.1.2.2.2.1[n7]? fun y8=>
 Option.bind (bif decide (a0.2.2.2.2.2.2.1=(4:Int)) then
 some (decide (a0.2.2.2.2.2.2.2.2.2.2.2.1=(3:Int)))
 else some false:Option (Bool)) fun x9=>
 bif x9 then
 Option.bind (g_sl12Moved ((r0.1.1,r0.1.2.1,r0.1.2.2.1,r0.1.2.2.2.1.set n7 ([]++a2.2.2.2),r0.1.2.2.2.2.1.set n5 a2.1,r0.1.2.2.2.2.2),(a0.2.2.2.2.2.1,a0.2.2.2.2.2.2.1,a0.2.2.2.2.2.2.2.1,a0.2.2.2.2.2.2.2.2.1),a2.2.2.1)) fun r10=>
 Option.bind (g_sl12Copy r10.2) fun r11=>
 some ((r11.1.1,r11.1.2.1,r11.1.2.2.1,r11.1.2.2.2.1,r11.1.2.2.2.2.1,r11.1.2.2.2.2.2.1,r11.1.2.2.2.2.2.2.1,r11.1.2.2.2.2.2.2.2.1,r11.1.2.2.2.2.2.2.2.2.1,r11.1.2.2.2.2.2.2.2.2.2.1,r11.1.2.2.2.2.2.2.2.2.2.2.1,r11.1.2.2.2.2.2.2.2.2.2.2.2.1,r11.1.2.2.2.2.2.2.2.2.2.2.2.2.1,r11.1.2.2.2.2.2.2.2.2.2.2.2.2.2.1,r11.1.2.2.2.2.2.2.2.2.2.2.2.2.2.2,r10.1),())
 else Option.bind (Option.bind (bif !decide (a0.2.2.2.2.2.2.1=(4:Int)) then
 some !a2.2.1
 else some false:Option (Bool)) fun x12=>
 bif x12 then
 some (2:Int)
 else some (1:Int):Option (Int)) fun x13=>
 Option.bind (g_sl12Say ((r0.1.1,r0.1.2.1,r0.1.2.2.1,r0.1.2.2.2.1.set n7 ([]++a2.2.2.2),r0.1.2.2.2.2.1.set n5 a2.1,r0.1.2.2.2.2.2),(a0.2.2.2.2.2.1,a0.2.2.2.2.2.2.1,a0.2.2.2.2.2.2.2.1,a0.2.2.2.2.2.2.2.2.1),x13)) fun r14=>
 some ((r14.2.1,r14.2.2.1,r14.2.2.2.1,r14.2.2.2.2.1,r14.2.2.2.2.2.1,r14.2.2.2.2.2.2.1,r14.2.2.2.2.2.2.2.1,r14.2.2.2.2.2.2.2.2.1,r14.2.2.2.2.2.2.2.2.2.1,r14.2.2.2.2.2.2.2.2.2.2.1,r14.2.2.2.2.2.2.2.2.2.2.2.1,r14.2.2.2.2.2.2.2.2.2.2.2.2.1,r14.2.2.2.2.2.2.2.2.2.2.2.2.2.1,r14.2.2.2.2.2.2.2.2.2.2.2.2.2.2.1,r14.2.2.2.2.2.2.2.2.2.2.2.2.2.2.2,(1:Int)),())
 else none:=by kernel_rfl
end
end Go.Fw
