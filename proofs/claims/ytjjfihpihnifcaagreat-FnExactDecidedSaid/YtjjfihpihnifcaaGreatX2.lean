/- The given functions, as what they compute; each is shown to be what the code does. No conditions. -/
import Derived.Test.YtjjfihpihnifcaaGreatX1
set_option linter.unusedVariables false
set_option linter.unusedSimpArgs false
namespace Go.Fw
noncomputable section
def c_leqAsk:TC:=
 (.seq (.rg [o1 2 (.a (.t 0)),
 o1 3 (.a (.t 1)),
 o1 4 (.lit [.b] [.bool false])])
 (.seq (.seq (.rg [oi 5,
 o1 6 (.load 2 [] 0 (.t 5) 1 false),
 oi 7,
 o1 8 (.load 3 [] 0 (.t 7) 1 false),
 o1 9 (.data (.bin .neq) [.t 6,.t 8])])
 (.cond (.t 9)
 (.seq (.rg [o1 4 (.lit [.b] [.bool false])])
 .ret)
 .skip))
 (.seq (.seq (.rg [oi 10,
 o1 11 (.load 2 [] 1 (.t 10) 1 false),
 oi 12,
 o1 13 (.load 3 [] 1 (.t 12) 1 false),
 o1 14 (.data (.bin .neq) [.t 11,.t 13])])
 (.cond (.t 14)
 (.seq (.rg [o1 4 (.lit [.b] [.bool false])])
 .ret)
 .skip))
 (.seq (.seq (.rg [oi 15,
 o1 16 (.load 2 [] 2 (.t 15) 1 false),
 oi 17,
 o1 18 (.load 3 [] 2 (.t 17) 1 false),
 o1 19 (.data (.bin .neq) [.t 16,.t 18])])
 (.cond (.t 19)
 (.seq (.rg [o1 4 (.lit [.b] [.bool false])])
 .ret)
 .skip))
 (.seq (.seq (.rg [oi 20,
 o1 21 (.load 2 [] 3 (.t 20) 1 false),
 oi 22,
 o1 23 (.load 3 [] 3 (.t 22) 1 false),
 o1 24 (.data (.bin .neq) [.t 21,.t 23])])
 (.cond (.t 24)
 (.seq (.rg [o1 4 (.lit [.b] [.bool false])])
 .ret)
 .skip))
 (.seq (.rg [o1 4 (.lit [.b] [.bool true])])
 .ret))))))
def s_leqAsk:Sig:=⟨[.rd true [.d,.d,.d,.d],.rd true [.d,.d,.d,.d]],(.one false [.d])⟩
def E_leqAsk:TEnv:=envOf []
def f_leqAsk (n:Nat):(Int × Int × Int × Int) × (Int × Int × Int × Int)->Option ((Bool) × Unit):=runFn n E_leqAsk c_leqAsk [Ty11,Ty11] [.b] [] [4] .no
def g_leqAsk:=f_leqAsk BIG
def p_leqAsk:TSp:=⟨s_leqAsk,[Ty11,Ty11],[.b],[],Ou.j .no,g_leqAsk⟩
theorem k_leqAsk:chkW PG E_leqAsk 47 s_leqAsk (c_leqAsk.ht 25) .no=some (c_leqAsk.wc E_leqAsk,[4]):=by kernel_rfl
theorem ok_leqAsk:p_leqAsk.Ok PG 47:=mkOk (env_nil PG) k_leqAsk (by kernel_rfl)
theorem e_leqAsk (n) (a0) (a1):f_leqAsk n (a0,a1) =
 bif !decide (a0.1=a1.1) then
 some (false,())
 else bif !decide (a0.2.1=a1.2.1) then
 some (false,())
 else bif !decide (a0.2.2.1=a1.2.2.1) then
 some (false,())
 else bif !decide (a0.2.2.2=a1.2.2.2) then
 some (false,())
 else some (true,()):=by kernel_rfl
def c_leqSaid:TC:=
 (.seq (.rg [o1 2 (.a (.t 0)),
 o1 3 (.a (.t 1)),
 o1 4 (.lit [.b] [.bool false])])
 (.seq (.seq (.rg [oi 5,
 o1 6 (.load 2 [] 0 (.t 5) 1 false),
 oi 7,
 o1 8 (.load 3 [] 0 (.t 7) 1 false),
 o1 9 (.data (.bin .neq) [.t 6,.t 8])])
 (.cond (.t 9)
 (.seq (.rg [o1 4 (.lit [.b] [.bool false])])
 .ret)
 .skip))
 (.seq (.seq (.rg [oi 10,
 o1 11 (.load 2 [] 1 (.t 10) 4 false),
 oi 12,
 o1 13 (.load 3 [] 1 (.t 12) 4 false),
 o3 14 47 [.t 11,.t 13],
 o1 15 (.data .not [.t 14])])
 (.cond (.t 15)
 (.seq (.rg [o1 4 (.lit [.b] [.bool false])])
 .ret)
 .skip))
 (.seq (.seq (.rg [oi 16,
 o1 17 (.load 2 [] 5 (.t 16) 1 false),
 oi 18,
 o1 19 (.load 3 [] 5 (.t 18) 1 false),
 o1 20 (.data (.bin .neq) [.t 17,.t 19])])
 (.cond (.t 20)
 (.seq (.rg [o1 4 (.lit [.b] [.bool false])])
 .ret)
 .skip))
 (.seq (.rg [o1 4 (.lit [.b] [.bool true])])
 .ret)))))
def s_leqSaid:Sig:=⟨[.rd true Ct10,.rd true Ct10],(.one false [.d])⟩
def E_leqSaid:TEnv:=envOf [(47,p_leqAsk)]
def f_leqSaid (n:Nat):(Int × Int × Int × Int × Int × Int) × (Int × Int × Int × Int × Int × Int)->Option ((Bool) × Unit):=runFn n E_leqSaid c_leqSaid [Ty8,Ty8] [.b] [] [4] .no
def g_leqSaid:=f_leqSaid BIG
def p_leqSaid:TSp:=⟨s_leqSaid,[Ty8,Ty8],[.b],[],Ou.j .no,g_leqSaid⟩
theorem k_leqSaid:chkW PG E_leqSaid 21 s_leqSaid (c_leqSaid.ht 21) .no=some (c_leqSaid.wc E_leqSaid,[4]):=by kernel_rfl
theorem ok_leqSaid:p_leqSaid.Ok PG 21:=mkOk (env_cons ok_leqAsk (env_nil PG)) k_leqSaid (by kernel_rfl)
theorem e_leqSaid (n) (a0) (a1):f_leqSaid n (a0,a1) =
 bif !decide (a0.1=a1.1) then
 some (false,())
 else Option.bind (g_leqAsk ((a0.2.1,a0.2.2.1,a0.2.2.2.1,a0.2.2.2.2.1),(a1.2.1,a1.2.2.1,a1.2.2.2.1,a1.2.2.2.2.1))) fun r0=>
 bif !r0.1 then
 some (false,())
 else bif !decide (a0.2.2.2.2.2=a1.2.2.2.2.2) then
 some (false,())
 else some (true,()):=by kernel_rfl
def c_leqSaidS:TC:=
 (.seq (.rg [o1 4 (.lit [.b] [.bool false])])
 (.seq (.seq (.rg [oc 6 0,
 o1 7 (.len 6),
 oc 8 1,
 o1 9 (.len 8),
 o1 10 (.data (.bin .neq) [.t 7,.t 9])])
 (.cond (.t 10)
 (.seq (.rg [o1 4 (.lit [.b] [.bool false])])
 .ret)
 .skip))
 (.seq (.join [] 134215728 (some [⟨4,[.b],false⟩]) (.seq (.rg [o1 5 (kL 0)])
 (.block 0 (.loop [⟨5,[.i .i64],false⟩] 134215728
 (.seq (.seq (.rg [oc 11 5,
 oc 12 0,
 o1 13 (.len 12),
 o1 14 (.data (.bin .lss) [.t 11,.t 13])])
 (.cond (.t 14)
 .skip
 (.exit 0)))
 (.seq (.block 1 (.seq (.rg [oc 17 0,
 oc 18 5,
 o1 19 (.index 17 (.t 18)),
 o1 20 (.load 17 [(0,6)] 0 (.t 19) 6 false),
 oc 21 1,
 oc 22 5,
 o1 23 (.index 21 (.t 22)),
 o1 24 (.load 21 [(0,6)] 0 (.t 23) 6 false),
 o3 25 21 [.t 20,.t 24],
 o1 26 (.data .not [.t 25])])
 (.cond (.t 26)
 (.seq (.rg [o1 4 (.lit [.b] [.bool false])])
 .ret)
 .skip)))
 (.rg [oc 15 5,
 o1 16 (.data (.bin .add) [.t 15,kD 1]),
 oc 5 16])))))))
 (.seq (.rg [o1 4 (.lit [.b] [.bool true])])
 .ret))))
def s_leqSaidS:Sig:=⟨[.rd false Ct6,.rd false Ct6],(.one false [.d])⟩
def E_leqSaidS:TEnv:=envOf [(21,p_leqSaid)]
def f_leqSaidS (n:Nat):(List (Int × Int × Int × Int × Int × Int)) × (List (Int × Int × Int × Int × Int × Int))->Option ((Bool) × Unit):=runFn n E_leqSaidS c_leqSaidS [Ty7,Ty7] [.b] [] [4] .no
def g_leqSaidS:=f_leqSaidS BIG
def p_leqSaidS:TSp:=⟨s_leqSaidS,[Ty7,Ty7],[.b],[],Ou.j .no,g_leqSaidS⟩
theorem k_leqSaidS:chkW PG E_leqSaidS 9 s_leqSaidS (c_leqSaidS.ht 27) .no=some (c_leqSaidS.wc E_leqSaidS,[4]):=by kernel_rfl
theorem ok_leqSaidS:p_leqSaidS.Ok PG 9:=mkOk (env_cons ok_leqSaid (env_nil PG)) k_leqSaidS (by kernel_rfl)
theorem e_leqSaidS (n) (a0) (a1):f_leqSaidS n (a0,a1) =
 bif !decide ((a0.length:Int)=(a1.length:Int)) then
  some (false,())
 else Option.bind (loopT n (X:=Int) (B:=(Unit) ⊕ (Bool)) (fun self1 x0=>
  bif decide (x0<(a0.length:Int)) then
   bnd a0.length x0 fun n2=>
   Option.bind a0[n2]? fun y3=>
   bnd a1.length x0 fun n4=>
   Option.bind a1[n4]? fun y5=>
   Option.bind (g_leqSaid (y3,y5)) fun r6=>
   bif !r6.1 then
    some (Sum.inr false)
   else self1 (IntKind.wrap .i64 (x0+(1:Int)))
  else some (Sum.inl ())) (0:Int):Option ((Unit) ⊕ (Bool))) fun y=>match y with
 | .inl x7=>
  some (true,())
 | .inr x7=>
  some (x7,()):=by kernel_rfl
def c_leqEdge:TC:=
 (.seq (.rg [o1 2 (.a (.t 0)),
 o1 3 (.a (.t 1)),
 o1 4 (.lit [.b] [.bool false])])
 (.seq (.seq (.rg [oi 5,
 o1 6 (.load 2 [] 0 (.t 5) 1 false),
 oi 7,
 o1 8 (.load 3 [] 0 (.t 7) 1 false),
 o1 9 (.data (.bin .neq) [.t 6,.t 8])])
 (.cond (.t 9)
 (.seq (.rg [o1 4 (.lit [.b] [.bool false])])
 .ret)
 .skip))
 (.seq (.seq (.rg [oi 10,
 o1 11 (.load 2 [] 1 (.t 10) 1 false),
 oi 12,
 o1 13 (.load 3 [] 1 (.t 12) 1 false),
 o1 14 (.data (.bin .neq) [.t 11,.t 13])])
 (.cond (.t 14)
 (.seq (.rg [o1 4 (.lit [.b] [.bool false])])
 .ret)
 .skip))
 (.seq (.rg [o1 4 (.lit [.b] [.bool true])])
 .ret))))
def s_leqEdge:Sig:=⟨[.rd true [.d,.d],.rd true [.d,.d]],(.one false [.d])⟩
def E_leqEdge:TEnv:=envOf []
def f_leqEdge (n:Nat):(Int × Int) × (Int × Int)->Option ((Bool) × Unit):=runFn n E_leqEdge c_leqEdge [[.i .i64,.i .i64],[.i .i64,.i .i64]] [.b] [] [4] .no
def g_leqEdge:=f_leqEdge BIG
def p_leqEdge:TSp:=⟨s_leqEdge,[[.i .i64,.i .i64],[.i .i64,.i .i64]],[.b],[],Ou.j .no,g_leqEdge⟩
theorem k_leqEdge:chkW PG E_leqEdge 75 s_leqEdge (c_leqEdge.ht 15) .no=some (c_leqEdge.wc E_leqEdge,[4]):=by kernel_rfl
theorem ok_leqEdge:p_leqEdge.Ok PG 75:=mkOk (env_nil PG) k_leqEdge (by kernel_rfl)
theorem e_leqEdge (n) (a0) (a1):f_leqEdge n (a0,a1) =
 bif !decide (a0.1=a1.1) then
 some (false,())
 else bif !decide (a0.2=a1.2) then
 some (false,())
 else some (true,()):=by kernel_rfl
def c_leqEdgeS:TC:=
 (.seq (.rg [o1 4 (.lit [.b] [.bool false])])
 (.seq (.seq (.rg [oc 6 0,
 o1 7 (.len 6),
 oc 8 1,
 o1 9 (.len 8),
 o1 10 (.data (.bin .neq) [.t 7,.t 9])])
 (.cond (.t 10)
 (.seq (.rg [o1 4 (.lit [.b] [.bool false])])
 .ret)
 .skip))
 (.seq (.join [] 134215728 (some [⟨4,[.b],false⟩]) (.seq (.rg [o1 5 (kL 0)])
 (.block 0 (.loop [⟨5,[.i .i64],false⟩] 134215728
 (.seq (.seq (.rg [oc 11 5,
 oc 12 0,
 o1 13 (.len 12),
 o1 14 (.data (.bin .lss) [.t 11,.t 13])])
 (.cond (.t 14)
 .skip
 (.exit 0)))
 (.seq (.block 1 (.seq (.rg [oc 17 0,
 oc 18 5,
 o1 19 (.index 17 (.t 18)),
 o1 20 (.load 17 [(0,2)] 0 (.t 19) 2 false),
 oc 21 1,
 oc 22 5,
 o1 23 (.index 21 (.t 22)),
 o1 24 (.load 21 [(0,2)] 0 (.t 23) 2 false),
 o3 25 75 [.t 20,.t 24],
 o1 26 (.data .not [.t 25])])
 (.cond (.t 26)
 (.seq (.rg [o1 4 (.lit [.b] [.bool false])])
 .ret)
 .skip)))
 (.rg [oc 15 5,
 o1 16 (.data (.bin .add) [.t 15,kD 1]),
 oc 5 16])))))))
 (.seq (.rg [o1 4 (.lit [.b] [.bool true])])
 .ret))))
def s_leqEdgeS:Sig:=⟨[.rd false Ct8,.rd false Ct8],(.one false [.d])⟩
def E_leqEdgeS:TEnv:=envOf [(75,p_leqEdge)]
def f_leqEdgeS (n:Nat):(List (Int × Int)) × (List (Int × Int))->Option ((Bool) × Unit):=runFn n E_leqEdgeS c_leqEdgeS [[.sl [.i .i64,.i .i64]],[.sl [.i .i64,.i .i64]]] [.b] [] [4] .no
def g_leqEdgeS:=f_leqEdgeS BIG
def p_leqEdgeS:TSp:=⟨s_leqEdgeS,[[.sl [.i .i64,.i .i64]],[.sl [.i .i64,.i .i64]]],[.b],[],Ou.j .no,g_leqEdgeS⟩
theorem k_leqEdgeS:chkW PG E_leqEdgeS 33 s_leqEdgeS (c_leqEdgeS.ht 27) .no=some (c_leqEdgeS.wc E_leqEdgeS,[4]):=by kernel_rfl
theorem ok_leqEdgeS:p_leqEdgeS.Ok PG 33:=mkOk (env_cons ok_leqEdge (env_nil PG)) k_leqEdgeS (by kernel_rfl)
theorem e_leqEdgeS (n) (a0) (a1):f_leqEdgeS n (a0,a1) =
 bif !decide ((a0.length:Int)=(a1.length:Int)) then
  some (false,())
 else Option.bind (loopT n (X:=Int) (B:=(Unit) ⊕ (Bool)) (fun self1 x0=>
  bif decide (x0<(a0.length:Int)) then
   bnd a0.length x0 fun n2=>
   Option.bind a0[n2]? fun y3=>
   bnd a1.length x0 fun n4=>
   Option.bind a1[n4]? fun y5=>
   Option.bind (g_leqEdge (y3,y5)) fun r6=>
   bif !r6.1 then
    some (Sum.inr false)
   else self1 (IntKind.wrap .i64 (x0+(1:Int)))
  else some (Sum.inl ())) (0:Int):Option ((Unit) ⊕ (Bool))) fun y=>match y with
 | .inl x7=>
  some (true,())
 | .inr x7=>
  some (x7,()):=by kernel_rfl
def c_leqIntS:TC:=
 (.seq (.rg [o1 4 (.lit [.b] [.bool false])])
 (.seq (.seq (.rg [oc 6 0,
 o1 7 (.len 6),
 oc 8 1,
 o1 9 (.len 8),
 o1 10 (.data (.bin .neq) [.t 7,.t 9])])
 (.cond (.t 10)
 (.seq (.rg [o1 4 (.lit [.b] [.bool false])])
 .ret)
 .skip))
 (.seq (.join [] 67106864 (some [⟨4,[.b],false⟩]) (.seq (.rg [o1 5 (kL 0)])
 (.block 0 (.loop [⟨5,[.i .i64],false⟩] 67106864
 (.seq (.seq (.rg [oc 11 5,
 oc 12 0,
 o1 13 (.len 12),
 o1 14 (.data (.bin .lss) [.t 11,.t 13])])
 (.cond (.t 14)
 .skip
 (.exit 0)))
 (.seq (.block 1 (.seq (.rg [oc 17 0,
 oc 18 5,
 o1 19 (.index 17 (.t 18)),
 o1 20 (.load 17 [(0,1)] 0 (.t 19) 1 false),
 oc 21 1,
 oc 22 5,
 o1 23 (.index 21 (.t 22)),
 o1 24 (.load 21 [(0,1)] 0 (.t 23) 1 false),
 o1 25 (.data (.bin .neq) [.t 20,.t 24])])
 (.cond (.t 25)
 (.seq (.rg [o1 4 (.lit [.b] [.bool false])])
 .ret)
 .skip)))
 (.rg [oc 15 5,
 o1 16 (.data (.bin .add) [.t 15,kD 1]),
 oc 5 16])))))))
 (.seq (.rg [o1 4 (.lit [.b] [.bool true])])
 .ret))))
def s_leqIntS:Sig:=⟨[.rd false Ct9,.rd false Ct9],(.one false [.d])⟩
def E_leqIntS:TEnv:=envOf []
def f_leqIntS (n:Nat):List (Int) × List (Int)->Option ((Bool) × Unit):=runFn n E_leqIntS c_leqIntS [[.sl [.i .i64]],[.sl [.i .i64]]] [.b] [] [4] .no
def g_leqIntS:=f_leqIntS BIG
def p_leqIntS:TSp:=⟨s_leqIntS,[[.sl [.i .i64]],[.sl [.i .i64]]],[.b],[],Ou.j .no,g_leqIntS⟩
theorem k_leqIntS:chkW PG E_leqIntS 32 s_leqIntS (c_leqIntS.ht 26) .no=some (c_leqIntS.wc E_leqIntS,[4]):=by kernel_rfl
theorem ok_leqIntS:p_leqIntS.Ok PG 32:=mkOk (env_nil PG) k_leqIntS (by kernel_rfl)
theorem e_leqIntS (n) (a0) (a1):f_leqIntS n (a0,a1) =
 bif !decide ((a0.length:Int)=(a1.length:Int)) then
  some (false,())
 else Option.bind (loopT n (X:=Int) (B:=(Unit) ⊕ (Bool)) (fun self1 x0=>
  bif decide (x0<(a0.length:Int)) then
   bnd a0.length x0 fun n2=>
   Option.bind a0[n2]? fun y3=>
   bnd a1.length x0 fun n4=>
   Option.bind a1[n4]? fun y5=>
   bif !decide (y3=y5) then
    some (Sum.inr false)
   else self1 (IntKind.wrap .i64 (x0+(1:Int)))
  else some (Sum.inl ())) (0:Int):Option ((Unit) ⊕ (Bool))) fun y=>match y with
 | .inl x6=>
  some (true,())
 | .inr x6=>
  some (x6,()):=by kernel_rfl
def c_leqAnswer:TC:=
 (.seq (.rg [o1 2 (.a (.t 0)),
 o1 3 (.a (.t 1)),
 o1 4 (.lit [.b] [.bool false])])
 (.seq (.seq (.rg [oi 5,
 o1 6 (.load 2 [] 0 (.t 5) 1 false),
 oi 7,
 o1 8 (.load 3 [] 0 (.t 7) 1 false),
 o1 9 (.data (.bin .neq) [.t 6,.t 8])])
 (.cond (.t 9)
 (.seq (.rg [o1 4 (.lit [.b] [.bool false])])
 .ret)
 .skip))
 (.seq (.seq (.rg [oi 10,
 o1 11 (.load 2 [] 1 (.t 10) 1 false),
 oi 12,
 o1 13 (.load 3 [] 1 (.t 12) 1 false),
 o1 14 (.data (.beq true) [.t 11,.t 13])])
 (.cond (.t 14)
 (.seq (.rg [o1 4 (.lit [.b] [.bool false])])
 .ret)
 .skip))
 (.seq (.seq (.rg [oi 15,
 o1 16 (.load 2 [] 2 (.t 15) 1 false),
 oi 17,
 o1 18 (.load 3 [] 2 (.t 17) 1 false),
 o3 19 33 [.t 16,.t 18],
 o1 20 (.data .not [.t 19])])
 (.cond (.t 20)
 (.seq (.rg [o1 4 (.lit [.b] [.bool false])])
 .ret)
 .skip))
 (.seq (.seq (.rg [oi 21,
 o1 22 (.load 2 [] 3 (.t 21) 1 false),
 oi 23,
 o1 24 (.load 3 [] 3 (.t 23) 1 false),
 o3 25 32 [.t 22,.t 24],
 o1 26 (.data .not [.t 25])])
 (.cond (.t 26)
 (.seq (.rg [o1 4 (.lit [.b] [.bool false])])
 .ret)
 .skip))
 (.seq (.rg [o1 4 (.lit [.b] [.bool true])])
 .ret))))))
def s_leqAnswer:Sig:=⟨[.rd true Ct4,.rd true Ct4],(.one false [.d])⟩
def E_leqAnswer:TEnv:=envOf [(33,p_leqEdgeS),(32,p_leqIntS)]
def f_leqAnswer (n:Nat):(Int × Bool × List (Int × Int) × List (Int)) × (Int × Bool × List (Int × Int) × List (Int))->Option ((Bool) × Unit):=runFn n E_leqAnswer c_leqAnswer [Ty9,Ty9] [.b] [] [4] .no
def g_leqAnswer:=f_leqAnswer BIG
def p_leqAnswer:TSp:=⟨s_leqAnswer,[Ty9,Ty9],[.b],[],Ou.j .no,g_leqAnswer⟩
theorem k_leqAnswer:chkW PG E_leqAnswer 48 s_leqAnswer (c_leqAnswer.ht 27) .no=some (c_leqAnswer.wc E_leqAnswer,[4]):=by kernel_rfl
theorem ok_leqAnswer:p_leqAnswer.Ok PG 48:=mkOk (env_cons ok_leqEdgeS (env_cons ok_leqIntS (env_nil PG))) k_leqAnswer (by kernel_rfl)
theorem e_leqAnswer (n) (a0) (a1):f_leqAnswer n (a0,a1) =
 bif !decide (a0.1=a1.1) then
 some (false,())
 else bif !(a0.2.1 == a1.2.1) then
 some (false,())
 else Option.bind (g_leqEdgeS (a0.2.2.1,a1.2.2.1)) fun r0=>
 bif !r0.1 then
 some (false,())
 else Option.bind (g_leqIntS (a0.2.2.2,a1.2.2.2)) fun r1=>
 bif !r1.1 then
 some (false,())
 else some (true,()):=by kernel_rfl
def c_leqOrder:TC:=
 (.seq (.rg [o1 2 (.a (.t 0)),
 o1 3 (.a (.t 1)),
 o1 4 (.lit [.b] [.bool false])])
 (.seq (.seq (.rg [oi 5,
 o1 6 (.load 2 [] 0 (.t 5) 1 false),
 oi 7,
 o1 8 (.load 3 [] 0 (.t 7) 1 false),
 o1 9 (.data (.bin .neq) [.t 6,.t 8])])
 (.cond (.t 9)
 (.seq (.rg [o1 4 (.lit [.b] [.bool false])])
 .ret)
 .skip))
 (.seq (.seq (.rg [oi 10,
 o1 11 (.load 2 [] 1 (.t 10) 1 false),
 oi 12,
 o1 13 (.load 3 [] 1 (.t 12) 1 false),
 o1 14 (.data (.bin .neq) [.t 11,.t 13])])
 (.cond (.t 14)
 (.seq (.rg [o1 4 (.lit [.b] [.bool false])])
 .ret)
 .skip))
 (.seq (.seq (.rg [oi 15,
 o1 16 (.load 2 [] 2 (.t 15) 1 false),
 oi 17,
 o1 18 (.load 3 [] 2 (.t 17) 1 false),
 o3 19 33 [.t 16,.t 18],
 o1 20 (.data .not [.t 19])])
 (.cond (.t 20)
 (.seq (.rg [o1 4 (.lit [.b] [.bool false])])
 .ret)
 .skip))
 (.seq (.seq (.rg [oi 21,
 o1 22 (.load 2 [] 3 (.t 21) 1 false),
 oi 23,
 o1 24 (.load 3 [] 3 (.t 23) 1 false),
 o1 25 (.data (.bin .neq) [.t 22,.t 24])])
 (.cond (.t 25)
 (.seq (.rg [o1 4 (.lit [.b] [.bool false])])
 .ret)
 .skip))
 (.seq (.rg [o1 4 (.lit [.b] [.bool true])])
 .ret))))))
def s_leqOrder:Sig:=⟨[.rd true Ct7,.rd true Ct7],(.one false [.d])⟩
def E_leqOrder:TEnv:=envOf [(33,p_leqEdgeS)]
def f_leqOrder (n:Nat):(Int × Int × List (Int × Int) × Int) × (Int × Int × List (Int × Int) × Int)->Option ((Bool) × Unit):=runFn n E_leqOrder c_leqOrder [Ty10,Ty10] [.b] [] [4] .no
def g_leqOrder:=f_leqOrder BIG
def p_leqOrder:TSp:=⟨s_leqOrder,[Ty10,Ty10],[.b],[],Ou.j .no,g_leqOrder⟩
theorem k_leqOrder:chkW PG E_leqOrder 49 s_leqOrder (c_leqOrder.ht 26) .no=some (c_leqOrder.wc E_leqOrder,[4]):=by kernel_rfl
theorem ok_leqOrder:p_leqOrder.Ok PG 49:=mkOk (env_cons ok_leqEdgeS (env_nil PG)) k_leqOrder (by kernel_rfl)
theorem e_leqOrder (n) (a0) (a1):f_leqOrder n (a0,a1) =
 bif !decide (a0.1=a1.1) then
 some (false,())
 else bif !decide (a0.2.1=a1.2.1) then
 some (false,())
 else Option.bind (g_leqEdgeS (a0.2.2.1,a1.2.2.1)) fun r0=>
 bif !r0.1 then
 some (false,())
 else bif !decide (a0.2.2.2=a1.2.2.2) then
 some (false,())
 else some (true,()):=by kernel_rfl
def c_leqRec:TC:=
 (.seq (.rg [o1 2 (.a (.t 0)),
 o1 3 (.a (.t 1)),
 o1 4 (.lit [.b] [.bool false])])
 (.seq (.seq (.rg [oi 5,
 o1 6 (.load 2 [] 0 (.t 5) 1 false),
 oi 7,
 o1 8 (.load 3 [] 0 (.t 7) 1 false),
 o1 9 (.data (.bin .neq) [.t 6,.t 8])])
 (.cond (.t 9)
 (.seq (.rg [o1 4 (.lit [.b] [.bool false])])
 .ret)
 .skip))
 (.seq (.seq (.rg [oi 10,
 o1 11 (.load 2 [] 1 (.t 10) 4 false),
 oi 12,
 o1 13 (.load 3 [] 1 (.t 12) 4 false),
 o3 14 47 [.t 11,.t 13],
 o1 15 (.data .not [.t 14])])
 (.cond (.t 15)
 (.seq (.rg [o1 4 (.lit [.b] [.bool false])])
 .ret)
 .skip))
 (.seq (.seq (.rg [oi 16,
 o1 17 (.load 2 [] 5 (.t 16) 1 false),
 oi 18,
 o1 19 (.load 3 [] 5 (.t 18) 1 false),
 o1 20 (.data (.bin .neq) [.t 17,.t 19])])
 (.cond (.t 20)
 (.seq (.rg [o1 4 (.lit [.b] [.bool false])])
 .ret)
 .skip))
 (.seq (.seq (.rg [oi 21,
 o1 22 (.load 2 [] 6 (.t 21) 4 false),
 oi 23,
 o1 24 (.load 3 [] 6 (.t 23) 4 false),
 o3 25 48 [.t 22,.t 24],
 o1 26 (.data .not [.t 25])])
 (.cond (.t 26)
 (.seq (.rg [o1 4 (.lit [.b] [.bool false])])
 .ret)
 .skip))
 (.seq (.seq (.rg [oi 27,
 o1 28 (.load 2 [] 10 (.t 27) 4 false),
 oi 29,
 o1 30 (.load 3 [] 10 (.t 29) 4 false),
 o3 31 49 [.t 28,.t 30],
 o1 32 (.data .not [.t 31])])
 (.cond (.t 32)
 (.seq (.rg [o1 4 (.lit [.b] [.bool false])])
 .ret)
 .skip))
 (.seq (.rg [o1 4 (.lit [.b] [.bool true])])
 .ret)))))))
def s_leqRec:Sig:=⟨[.rd true Ct3,.rd true Ct3],(.one false [.d])⟩
def E_leqRec:TEnv:=envOf [(47,p_leqAsk),(48,p_leqAnswer),(49,p_leqOrder)]
def f_leqRec (n:Nat):(Int × Int × Int × Int × Int × Int × Int × Bool × List (Int × Int) × List (Int) × Int × Int × List (Int × Int) × Int) × (Int × Int × Int × Int × Int × Int × Int × Bool × List (Int × Int) × List (Int) × Int × Int × List (Int × Int) × Int)->Option ((Bool) × Unit):=runFn n E_leqRec c_leqRec [Ty4,Ty4] [.b] [] [4] .no
def g_leqRec:=f_leqRec BIG
def p_leqRec:TSp:=⟨s_leqRec,[Ty4,Ty4],[.b],[],Ou.j .no,g_leqRec⟩
theorem k_leqRec:chkW PG E_leqRec 22 s_leqRec (c_leqRec.ht 33) .no=some (c_leqRec.wc E_leqRec,[4]):=by kernel_rfl
theorem ok_leqRec:p_leqRec.Ok PG 22:=mkOk (env_cons ok_leqAsk (env_cons ok_leqAnswer (env_cons ok_leqOrder (env_nil PG)))) k_leqRec (by kernel_rfl)
theorem e_leqRec (n) (a0) (a1):f_leqRec n (a0,a1) =
 bif !decide (a0.1=a1.1) then
 some (false,())
 else Option.bind (g_leqAsk ((a0.2.1,a0.2.2.1,a0.2.2.2.1,a0.2.2.2.2.1),(a1.2.1,a1.2.2.1,a1.2.2.2.1,a1.2.2.2.2.1))) fun r0=>
 bif !r0.1 then
 some (false,())
 else bif !decide (a0.2.2.2.2.2.1=a1.2.2.2.2.2.1) then
 some (false,())
 else Option.bind (g_leqAnswer ((a0.2.2.2.2.2.2.1,a0.2.2.2.2.2.2.2.1,a0.2.2.2.2.2.2.2.2.1,a0.2.2.2.2.2.2.2.2.2.1),(a1.2.2.2.2.2.2.1,a1.2.2.2.2.2.2.2.1,a1.2.2.2.2.2.2.2.2.1,a1.2.2.2.2.2.2.2.2.2.1))) fun r1=>
 bif !r1.1 then
 some (false,())
 else Option.bind (g_leqOrder (a0.2.2.2.2.2.2.2.2.2.2,a1.2.2.2.2.2.2.2.2.2.2)) fun r2=>
 bif !r2.1 then
 some (false,())
 else some (true,()):=by kernel_rfl
def c_leqRecS:TC:=
 (.seq (.rg [o1 4 (.lit [.b] [.bool false])])
 (.seq (.seq (.rg [oc 6 0,
 o1 7 (.len 6),
 oc 8 1,
 o1 9 (.len 8),
 o1 10 (.data (.bin .neq) [.t 7,.t 9])])
 (.cond (.t 10)
 (.seq (.rg [o1 4 (.lit [.b] [.bool false])])
 .ret)
 .skip))
 (.seq (.join [] 134215728 (some [⟨4,[.b],false⟩]) (.seq (.rg [o1 5 (kL 0)])
 (.block 0 (.loop [⟨5,[.i .i64],false⟩] 134215728
 (.seq (.seq (.rg [oc 11 5,
 oc 12 0,
 o1 13 (.len 12),
 o1 14 (.data (.bin .lss) [.t 11,.t 13])])
 (.cond (.t 14)
 .skip
 (.exit 0)))
 (.seq (.block 1 (.seq (.rg [oc 17 0,
 oc 18 5,
 o1 19 (.index 17 (.t 18)),
 o1 20 (.load 17 [(0,14)] 0 (.t 19) 14 false),
 oc 21 1,
 oc 22 5,
 o1 23 (.index 21 (.t 22)),
 o1 24 (.load 21 [(0,14)] 0 (.t 23) 14 false),
 o3 25 22 [.t 20,.t 24],
 o1 26 (.data .not [.t 25])])
 (.cond (.t 26)
 (.seq (.rg [o1 4 (.lit [.b] [.bool false])])
 .ret)
 .skip)))
 (.rg [oc 15 5,
 o1 16 (.data (.bin .add) [.t 15,kD 1]),
 oc 5 16])))))))
 (.seq (.rg [o1 4 (.lit [.b] [.bool true])])
 .ret))))
def s_leqRecS:Sig:=⟨[.rd false Ct2,.rd false Ct2],(.one false [.d])⟩
def E_leqRecS:TEnv:=envOf [(22,p_leqRec)]
def f_leqRecS (n:Nat):(List (Int × Int × Int × Int × Int × Int × Int × Bool × List (Int × Int) × List (Int) × Int × Int × List (Int × Int) × Int)) × (List (Int × Int × Int × Int × Int × Int × Int × Bool × List (Int × Int) × List (Int) × Int × Int × List (Int × Int) × Int))->Option ((Bool) × Unit):=runFn n E_leqRecS c_leqRecS [Ty3,Ty3] [.b] [] [4] .no
def g_leqRecS:=f_leqRecS BIG
def p_leqRecS:TSp:=⟨s_leqRecS,[Ty3,Ty3],[.b],[],Ou.j .no,g_leqRecS⟩
theorem k_leqRecS:chkW PG E_leqRecS 10 s_leqRecS (c_leqRecS.ht 27) .no=some (c_leqRecS.wc E_leqRecS,[4]):=by kernel_rfl
theorem ok_leqRecS:p_leqRecS.Ok PG 10:=mkOk (env_cons ok_leqRec (env_nil PG)) k_leqRecS (by kernel_rfl)
theorem e_leqRecS (n) (a0) (a1):f_leqRecS n (a0,a1) =
 bif !decide ((a0.length:Int)=(a1.length:Int)) then
  some (false,())
 else Option.bind (loopT n (X:=Int) (B:=(Unit) ⊕ (Bool)) (fun self1 x0=>
  bif decide (x0<(a0.length:Int)) then
   bnd a0.length x0 fun n2=>
   Option.bind a0[n2]? fun y3=>
   bnd a1.length x0 fun n4=>
   Option.bind a1[n4]? fun y5=>
   Option.bind (g_leqRec (y3,y5)) fun r6=>
   bif !r6.1 then
    some (Sum.inr false)
   else self1 (IntKind.wrap .i64 (x0+(1:Int)))
  else some (Sum.inl ())) (0:Int):Option ((Unit) ⊕ (Bool))) fun y=>match y with
 | .inl x7=>
  some (true,())
 | .inr x7=>
  some (x7,()):=by kernel_rfl
def c_lmarkEdgeS:TC:=
 (.seq (.rg [o1 4 (kL 0)])
 (.seq (.join [⟨0,[.sl [.i .i64,.i .i64]],false⟩,⟨1,[.i .i64],false⟩] 67108835 none (.seq (.rg [o1 5 (kL 0)])
 (.block 0 (.loop [⟨0,[.sl [.i .i64,.i .i64]],false⟩,⟨1,[.i .i64],false⟩,⟨5,[.i .i64],false⟩] 67108835
 (.seq (.seq (.rg [oc 6 5,
 o6 7 0,
 o1 8 (.len 7),
 o1 9 (.data (.bin .lss) [.t 6,.t 8])])
 (.cond (.t 9)
 .skip
 (.exit 0)))
 (.seq (.block 1 (.seq (.rg [o6 12 0,
 oc 13 5,
 oc 14 1,
 o1 15 (.index 12 (.t 13)),
 o1 16 (.idx (.t 15)),
 o4 1 [0,7,12] (.store 0 [(0,2)] 0 (.t 16) (.t 14))])
 (.seq (.rg [oc 17 1,
 o1 18 (.data (.bin .add) [.t 17,kD 1]),
 oc 1 18])
 (.seq (.rg [o6 19 0,
 oc 20 5,
 oc 21 1,
 o1 22 (.index 19 (.t 20)),
 o1 23 (.idx (.t 22)),
 o4 1 [0,19] (.store 0 [(0,2)] 1 (.t 23) (.t 21))])
 (.rg [oc 24 1,
 o1 25 (.data (.bin .add) [.t 24,kD 1]),
 oc 1 25])))))
 (.rg [oc 10 5,
 o1 11 (.data (.bin .add) [.t 10,kD 1]),
 oc 5 11])))))))
 (.seq (.rg [oc 26 1,
 oc 4 26])
 .ret)))
def s_lmarkEdgeS:Sig:=⟨[.mt false Ct8,.rd false [.d]],(.one false [.d])⟩
def E_lmarkEdgeS:TEnv:=envOf []
def f_lmarkEdgeS (n:Nat):(List (Int × Int)) × Int->Option ((Int) × List (Int × Int)):=runFn n E_lmarkEdgeS c_lmarkEdgeS [[.sl [.i .i64,.i .i64]],[.i .i64]] [.i .i64] [.sl [.i .i64,.i .i64]] [4] (.mt 0 0 0)
def g_lmarkEdgeS:=f_lmarkEdgeS BIG
def p_lmarkEdgeS:TSp:=⟨s_lmarkEdgeS,[[.sl [.i .i64,.i .i64]],[.i .i64]],[.i .i64],[.sl [.i .i64,.i .i64]],Ou.j (.mt 0 0 0),g_lmarkEdgeS⟩
theorem k_lmarkEdgeS:chkW PG E_lmarkEdgeS 23 s_lmarkEdgeS (c_lmarkEdgeS.ht 27) (.mt 0 0 0)=some (c_lmarkEdgeS.wc E_lmarkEdgeS,[4]):=by kernel_rfl
theorem ok_lmarkEdgeS:p_lmarkEdgeS.Ok PG 23:=mkOk (env_nil PG) k_lmarkEdgeS (by kernel_rfl)
theorem e_lmarkEdgeS (n) (a0) (a1):f_lmarkEdgeS n (a0,a1) =
 Option.bind (loopT n (X:=(List (Int × Int)) × Int × Int) (B:=(List (Int × Int)) × Int) (fun self1 x0=>
 bif decide (x0.2.2<(x0.1.length:Int)) then
 bnd x0.1.length x0.2.2 fun n2=>
 Option.bind x0.1[n2]? fun y3=>
 bnd (x0.1.set n2 (x0.2.1,y3.2)).length x0.2.2 fun n4=>
 Option.bind (x0.1.set n2 (x0.2.1,y3.2))[n4]? fun y5=>
 self1 ((x0.1.set n2 (x0.2.1,y3.2)).set n4 (y5.1,IntKind.wrap .i64 (x0.2.1+(1:Int))),IntKind.wrap .i64 ((IntKind.wrap .i64 (x0.2.1+(1:Int)))+(1:Int)),IntKind.wrap .i64 (x0.2.2+(1:Int)))
 else some (x0.1,x0.2.1)) (a0,a1,(0:Int)):Option ((List (Int × Int)) × Int)) fun x6=>
 some (x6.2,x6.1):=by kernel_rfl
def c_lmarkIntS:TC:=
 (.seq (.rg [o1 4 (kL 0)])
 (.seq (.join [⟨0,[.sl [.i .i64]],false⟩,⟨1,[.i .i64],false⟩] 262115 none (.seq (.rg [o1 5 (kL 0)])
 (.block 0 (.loop [⟨0,[.sl [.i .i64]],false⟩,⟨1,[.i .i64],false⟩,⟨5,[.i .i64],false⟩] 262115
 (.seq (.seq (.rg [oc 6 5,
 o6 7 0,
 o1 8 (.len 7),
 o1 9 (.data (.bin .lss) [.t 6,.t 8])])
 (.cond (.t 9)
 .skip
 (.exit 0)))
 (.seq (.block 1 (.seq (.rg [o6 12 0,
 oc 13 5,
 oc 14 1,
 o1 15 (.index 12 (.t 13)),
 o4 1 [0,7,12] (.store 0 [(0,1)] 0 (.t 15) (.t 14))])
 (.rg [oc 16 1,
 o1 17 (.data (.bin .add) [.t 16,kD 1]),
 oc 1 17])))
 (.rg [oc 10 5,
 o1 11 (.data (.bin .add) [.t 10,kD 1]),
 oc 5 11])))))))
 (.seq (.rg [oc 18 1,
 oc 4 18])
 .ret)))
def s_lmarkIntS:Sig:=⟨[.mt false Ct9,.rd false [.d]],(.one false [.d])⟩
def E_lmarkIntS:TEnv:=envOf []
def f_lmarkIntS (n:Nat):List (Int) × Int->Option ((Int) × List (Int)):=runFn n E_lmarkIntS c_lmarkIntS [[.sl [.i .i64]],[.i .i64]] [.i .i64] [.sl [.i .i64]] [4] (.mt 0 0 0)
def g_lmarkIntS:=f_lmarkIntS BIG
def p_lmarkIntS:TSp:=⟨s_lmarkIntS,[[.sl [.i .i64]],[.i .i64]],[.i .i64],[.sl [.i .i64]],Ou.j (.mt 0 0 0),g_lmarkIntS⟩
theorem k_lmarkIntS:chkW PG E_lmarkIntS 24 s_lmarkIntS (c_lmarkIntS.ht 19) (.mt 0 0 0)=some (c_lmarkIntS.wc E_lmarkIntS,[4]):=by kernel_rfl
theorem ok_lmarkIntS:p_lmarkIntS.Ok PG 24:=mkOk (env_nil PG) k_lmarkIntS (by kernel_rfl)
theorem e_lmarkIntS (n) (a0) (a1):f_lmarkIntS n (a0,a1) =
 Option.bind (loopT n (X:=(List (Int)) × Int × Int) (B:=(List (Int)) × Int) (fun self1 x0=>
 bif decide (x0.2.2<(x0.1.length:Int)) then
 bnd x0.1.length x0.2.2 fun n2=>
 Option.bind x0.1[n2]? fun y3=>
 self1 (x0.1.set n2 x0.2.1,IntKind.wrap .i64 (x0.2.1+(1:Int)),IntKind.wrap .i64 (x0.2.2+(1:Int)))
 else some (x0.1,x0.2.1)) (a0,a1,(0:Int)):Option ((List (Int)) × Int)) fun x4=>
 some (x4.2,x4.1):=by kernel_rfl
def c_lmarkRecS:TC:=
 (.seq (.rg [o1 4 (kL 0)])
 (.seq (.join [⟨0,Ty3,false⟩,⟨1,[.i .i64],false⟩] 21267647932558653966460912964485513187 none (.seq (.rg [o1 5 (kL 0)])
 (.block 0 (.loop [⟨0,Ty3,false⟩,⟨1,[.i .i64],false⟩,⟨5,[.i .i64],false⟩] 21267647932558653966460912964485513187
 (.seq (.seq (.rg [oc 6 5,
 o6 7 0,
 o1 8 (.len 7),
 o1 9 (.data (.bin .lss) [.t 6,.t 8])])
 (.cond (.t 9)
 .skip
 (.exit 0)))
 (.seq (.block 1 (.seq (.rg [o6 12 0,
 oc 13 5,
 oc 14 1,
 o1 15 (.index 12 (.t 13)),
 o1 16 (.idx (.t 15)),
 o4 1 [0,7,12] (.store 0 [(0,14)] 0 (.t 16) (.t 14))])
 (.seq (.rg [oc 17 1,
 o1 18 (.data (.bin .add) [.t 17,kD 1]),
 oc 1 18])
 (.seq (.rg [o6 19 0,
 oc 20 5,
 oc 21 1,
 o1 22 (.index 19 (.t 20)),
 o1 23 (.idx (.t 22)),
 o1 24 (.idx (.t 23)),
 o4 1 [0,19] (.store 0 [(0,14)] 1 (.t 24) (.t 21))])
 (.seq (.rg [oc 25 1,
 o1 26 (.data (.bin .add) [.t 25,kD 1]),
 oc 1 26])
 (.seq (.rg [o6 27 0,
 oc 28 5,
 oc 29 1,
 o1 30 (.index 27 (.t 28)),
 o1 31 (.idx (.t 30)),
 o1 32 (.idx (.t 31)),
 o4 1 [0,27] (.store 0 [(0,14)] 2 (.t 32) (.t 29))])
 (.seq (.rg [oc 33 1,
 o1 34 (.data (.bin .add) [.t 33,kD 1]),
 oc 1 34])
 (.seq (.rg [o6 35 0,
 oc 36 5,
 oc 37 1,
 o1 38 (.index 35 (.t 36)),
 o1 39 (.idx (.t 38)),
 o1 40 (.idx (.t 39)),
 o4 1 [0,35] (.store 0 [(0,14)] 3 (.t 40) (.t 37))])
 (.seq (.rg [oc 41 1,
 o1 42 (.data (.bin .add) [.t 41,kD 1]),
 oc 1 42])
 (.seq (.rg [o6 43 0,
 oc 44 5,
 oc 45 1,
 o1 46 (.index 43 (.t 44)),
 o1 47 (.idx (.t 46)),
 o1 48 (.idx (.t 47)),
 o4 1 [0,43] (.store 0 [(0,14)] 4 (.t 48) (.t 45))])
 (.seq (.rg [oc 49 1,
 o1 50 (.data (.bin .add) [.t 49,kD 1]),
 oc 1 50])
 (.seq (.rg [o6 51 0,
 oc 52 5,
 oc 53 1,
 o1 54 (.index 51 (.t 52)),
 o1 55 (.idx (.t 54)),
 o4 1 [0,51] (.store 0 [(0,14)] 5 (.t 55) (.t 53))])
 (.seq (.rg [oc 56 1,
 o1 57 (.data (.bin .add) [.t 56,kD 1]),
 oc 1 57])
 (.seq (.rg [o6 58 0,
 oc 59 5,
 oc 60 1,
 o1 61 (.index 58 (.t 59)),
 o1 62 (.idx (.t 61)),
 o1 63 (.idx (.t 62)),
 o4 1 [0,58] (.store 0 [(0,14)] 6 (.t 63) (.t 60))])
 (.seq (.rg [oc 64 1,
 o1 65 (.data (.bin .add) [.t 64,kD 1]),
 oc 1 65])
 (.seq (.rg [o6 66 0,
 oc 67 5,
 oc 68 1,
 o1 69 (.data (.bin .rem) [.t 68,kD 3]),
 o1 70 (.data (.bin .eql) [.t 69,kD 0]),
 o1 71 (.index 66 (.t 67)),
 o1 72 (.idx (.t 71)),
 o1 73 (.idx (.t 72)),
 o4 1 [0,66] (.store 0 [(0,14)] 7 (.t 73) (.t 70))])
 (.seq (.rg [oc 74 1,
 o1 75 (.data (.bin .add) [.t 74,kD 1]),
 oc 1 75])
 (.seq (.rg [o6 76 0,
 oc 77 5,
 o1 78 (.index 76 (.t 77)),
 o1 79 (.idx (.t 78)),
 o1 80 (.idx (.t 79)),
 o1 81 (.load 0 [(0,14)] 8 (.t 80) 1 true),
 oc 82 1,
 ⟨false,[],[],.call 2 23 [.t 81,.t 82] (.mt 0 [(0,14)] 8 81 0),[83,0,15,16,22,23,24,30,31,32,38,39,40,46,47,48,54,55,61,62,63,71,72,73,81,80,79,78,76],(some 83),none⟩,
 oc 1 83])
 (.seq (.rg [o6 84 0,
 oc 85 5,
 o1 86 (.index 84 (.t 85)),
 o1 87 (.idx (.t 86)),
 o1 88 (.idx (.t 87)),
 o1 89 (.load 0 [(0,14)] 9 (.t 88) 1 true),
 oc 90 1,
 ⟨false,[],[],.call 2 24 [.t 89,.t 90] (.mt 0 [(0,14)] 9 89 0),[91,0,89,88,87,86,84],(some 91),none⟩,
 oc 1 91])
 (.seq (.rg [o6 92 0,
 oc 93 5,
 oc 94 1,
 o1 95 (.index 92 (.t 93)),
 o1 96 (.idx (.t 95)),
 o1 97 (.idx (.t 96)),
 o4 1 [0,92] (.store 0 [(0,14)] 10 (.t 97) (.t 94))])
 (.seq (.rg [oc 98 1,
 o1 99 (.data (.bin .add) [.t 98,kD 1]),
 oc 1 99])
 (.seq (.rg [o6 100 0,
 oc 101 5,
 oc 102 1,
 o1 103 (.index 100 (.t 101)),
 o1 104 (.idx (.t 103)),
 o1 105 (.idx (.t 104)),
 o4 1 [0,100] (.store 0 [(0,14)] 11 (.t 105) (.t 102))])
 (.seq (.rg [oc 106 1,
 o1 107 (.data (.bin .add) [.t 106,kD 1]),
 oc 1 107])
 (.seq (.rg [o6 108 0,
 oc 109 5,
 o1 110 (.index 108 (.t 109)),
 o1 111 (.idx (.t 110)),
 o1 112 (.idx (.t 111)),
 o1 113 (.load 0 [(0,14)] 12 (.t 112) 1 true),
 oc 114 1,
 ⟨false,[],[],.call 2 23 [.t 113,.t 114] (.mt 0 [(0,14)] 12 113 0),[115,0,95,96,97,103,104,105,113,112,111,110,108],(some 115),none⟩,
 oc 1 115])
 (.seq (.rg [o6 116 0,
 oc 117 5,
 oc 118 1,
 o1 119 (.index 116 (.t 117)),
 o1 120 (.idx (.t 119)),
 o1 121 (.idx (.t 120)),
 o4 1 [0,116] (.store 0 [(0,14)] 13 (.t 121) (.t 118))])
 (.rg [oc 122 1,
 o1 123 (.data (.bin .add) [.t 122,kD 1]),
 oc 1 123]))))))))))))))))))))))))))
 (.rg [oc 10 5,
 o1 11 (.data (.bin .add) [.t 10,kD 1]),
 oc 5 11])))))))
 (.seq (.rg [oc 124 1,
 oc 4 124])
 .ret)))
def s_lmarkRecS:Sig:=⟨[.mt false Ct2,.rd false [.d]],(.one false [.d])⟩
def E_lmarkRecS:TEnv:=envOf [(23,p_lmarkEdgeS),(24,p_lmarkIntS)]
def f_lmarkRecS (n:Nat):(List (Int × Int × Int × Int × Int × Int × Int × Bool × List (Int × Int) × List (Int) × Int × Int × List (Int × Int) × Int)) × Int->Option ((Int) × List (Int × Int × Int × Int × Int × Int × Int × Bool × List (Int × Int) × List (Int) × Int × Int × List (Int × Int) × Int)):=runFn n E_lmarkRecS c_lmarkRecS [Ty3,[.i .i64]] [.i .i64] Ty3 [4] (.mt 0 0 0)
def g_lmarkRecS:=f_lmarkRecS BIG
def p_lmarkRecS:TSp:=⟨s_lmarkRecS,[Ty3,[.i .i64]],[.i .i64],Ty3,Ou.j (.mt 0 0 0),g_lmarkRecS⟩
theorem k_lmarkRecS:chkW PG E_lmarkRecS 11 s_lmarkRecS (c_lmarkRecS.ht 125) (.mt 0 0 0)=some (c_lmarkRecS.wc E_lmarkRecS,[4]):=by kernel_rfl
theorem ok_lmarkRecS:p_lmarkRecS.Ok PG 11:=mkOk (env_cons ok_lmarkEdgeS (env_cons ok_lmarkIntS (env_nil PG))) k_lmarkRecS (by kernel_rfl)
theorem e_lmarkRecS (n) (a0) (a1):f_lmarkRecS n (a0,a1) =
 Option.bind (loopT n (X:=(List (Int × Int × Int × Int × Int × Int × Int × Bool × (List (Int × Int)) × (List (Int)) × Int × Int × (List (Int × Int)) × Int)) × Int × Int) (B:=(List (Int × Int × Int × Int × Int × Int × Int × Bool × (List (Int × Int)) × (List (Int)) × Int × Int × (List (Int × Int)) × Int)) × Int) (fun self1 x0=>
 bif decide (x0.2.2<(x0.1.length:Int)) then
 bnd x0.1.length x0.2.2 fun n2=>
 Option.bind x0.1[n2]? fun y3=>
 bnd (x0.1.set n2 (x0.2.1,y3.2)).length x0.2.2 fun n4=>
 Option.bind (x0.1.set n2 (x0.2.1,y3.2))[n4]? fun y5=>
 bnd ((x0.1.set n2 (x0.2.1,y3.2)).set n4 (y5.1,IntKind.wrap .i64 (x0.2.1+(1:Int)),y5.2.2)).length x0.2.2 fun n6=>
 Option.bind ((x0.1.set n2 (x0.2.1,y3.2)).set n4 (y5.1,IntKind.wrap .i64 (x0.2.1+(1:Int)),y5.2.2))[n6]? fun y7=>
 bnd (((x0.1.set n2 (x0.2.1,y3.2)).set n4 (y5.1,IntKind.wrap .i64 (x0.2.1+(1:Int)),y5.2.2)).set n6 (y7.1,y7.2.1,IntKind.wrap .i64 ((IntKind.wrap .i64 (x0.2.1+(1:Int)))+(1:Int)),y7.2.2.2)).length x0.2.2 fun n8=>
 Option.bind (((x0.1.set n2 (x0.2.1,y3.2)).set n4 (y5.1,IntKind.wrap .i64 (x0.2.1+(1:Int)),y5.2.2)).set n6 (y7.1,y7.2.1,IntKind.wrap .i64 ((IntKind.wrap .i64 (x0.2.1+(1:Int)))+(1:Int)),y7.2.2.2))[n8]? fun y9=>
 bnd ((((x0.1.set n2 (x0.2.1,y3.2)).set n4 (y5.1,IntKind.wrap .i64 (x0.2.1+(1:Int)),y5.2.2)).set n6 (y7.1,y7.2.1,IntKind.wrap .i64 ((IntKind.wrap .i64 (x0.2.1+(1:Int)))+(1:Int)),y7.2.2.2)).set n8 (y9.1,y9.2.1,y9.2.2.1,IntKind.wrap .i64 ((IntKind.wrap .i64 ((IntKind.wrap .i64 (x0.2.1+(1:Int)))+(1:Int)))+(1:Int)),y9.2.2.2.2)).length x0.2.2 fun n10=>
 Option.bind ((((x0.1.set n2 (x0.2.1,y3.2)).set n4 (y5.1,IntKind.wrap .i64 (x0.2.1+(1:Int)),y5.2.2)).set n6 (y7.1,y7.2.1,IntKind.wrap .i64 ((IntKind.wrap .i64 (x0.2.1+(1:Int)))+(1:Int)),y7.2.2.2)).set n8 (y9.1,y9.2.1,y9.2.2.1,IntKind.wrap .i64 ((IntKind.wrap .i64 ((IntKind.wrap .i64 (x0.2.1+(1:Int)))+(1:Int)))+(1:Int)),y9.2.2.2.2))[n10]? fun y11=>
 bnd (((((x0.1.set n2 (x0.2.1,y3.2)).set n4 (y5.1,IntKind.wrap .i64 (x0.2.1+(1:Int)),y5.2.2)).set n6 (y7.1,y7.2.1,IntKind.wrap .i64 ((IntKind.wrap .i64 (x0.2.1+(1:Int)))+(1:Int)),y7.2.2.2)).set n8 (y9.1,y9.2.1,y9.2.2.1,IntKind.wrap .i64 ((IntKind.wrap .i64 ((IntKind.wrap .i64 (x0.2.1+(1:Int)))+(1:Int)))+(1:Int)),y9.2.2.2.2)).set n10 (y11.1,y11.2.1,y11.2.2.1,y11.2.2.2.1,IntKind.wrap .i64 ((IntKind.wrap .i64 ((IntKind.wrap .i64 ((IntKind.wrap .i64 (x0.2.1+(1:Int)))+(1:Int)))+(1:Int)))+(1:Int)),y11.2.2.2.2.2)).length x0.2.2 fun n12=>
 Option.bind (((((x0.1.set n2 (x0.2.1,y3.2)).set n4 (y5.1,IntKind.wrap .i64 (x0.2.1+(1:Int)),y5.2.2)).set n6 (y7.1,y7.2.1,IntKind.wrap .i64 ((IntKind.wrap .i64 (x0.2.1+(1:Int)))+(1:Int)),y7.2.2.2)).set n8 (y9.1,y9.2.1,y9.2.2.1,IntKind.wrap .i64 ((IntKind.wrap .i64 ((IntKind.wrap .i64 (x0.2.1+(1:Int)))+(1:Int)))+(1:Int)),y9.2.2.2.2)).set n10 (y11.1,y11.2.1,y11.2.2.1,y11.2.2.2.1,IntKind.wrap .i64 ((IntKind.wrap .i64 ((IntKind.wrap .i64 ((IntKind.wrap .i64 (x0.2.1+(1:Int)))+(1:Int)))+(1:Int)))+(1:Int)),y11.2.2.2.2.2))[n12]? fun y13=>
 bnd ((((((x0.1.set n2 (x0.2.1,y3.2)).set n4 (y5.1,IntKind.wrap .i64 (x0.2.1+(1:Int)),y5.2.2)).set n6 (y7.1,y7.2.1,IntKind.wrap .i64 ((IntKind.wrap .i64 (x0.2.1+(1:Int)))+(1:Int)),y7.2.2.2)).set n8 (y9.1,y9.2.1,y9.2.2.1,IntKind.wrap .i64 ((IntKind.wrap .i64 ((IntKind.wrap .i64 (x0.2.1+(1:Int)))+(1:Int)))+(1:Int)),y9.2.2.2.2)).set n10 (y11.1,y11.2.1,y11.2.2.1,y11.2.2.2.1,IntKind.wrap .i64 ((IntKind.wrap .i64 ((IntKind.wrap .i64 ((IntKind.wrap .i64 (x0.2.1+(1:Int)))+(1:Int)))+(1:Int)))+(1:Int)),y11.2.2.2.2.2)).set n12 (y13.1,y13.2.1,y13.2.2.1,y13.2.2.2.1,y13.2.2.2.2.1,IntKind.wrap .i64 ((IntKind.wrap .i64 ((IntKind.wrap .i64 ((IntKind.wrap .i64 ((IntKind.wrap .i64 (x0.2.1+(1:Int)))+(1:Int)))+(1:Int)))+(1:Int)))+(1:Int)),y13.2.2.2.2.2.2)).length x0.2.2 fun n14=>
 Option.bind ((((((x0.1.set n2 (x0.2.1,y3.2)).set n4 (y5.1,IntKind.wrap .i64 (x0.2.1+(1:Int)),y5.2.2)).set n6 (y7.1,y7.2.1,IntKind.wrap .i64 ((IntKind.wrap .i64 (x0.2.1+(1:Int)))+(1:Int)),y7.2.2.2)).set n8 (y9.1,y9.2.1,y9.2.2.1,IntKind.wrap .i64 ((IntKind.wrap .i64 ((IntKind.wrap .i64 (x0.2.1+(1:Int)))+(1:Int)))+(1:Int)),y9.2.2.2.2)).set n10 (y11.1,y11.2.1,y11.2.2.1,y11.2.2.2.1,IntKind.wrap .i64 ((IntKind.wrap .i64 ((IntKind.wrap .i64 ((IntKind.wrap .i64 (x0.2.1+(1:Int)))+(1:Int)))+(1:Int)))+(1:Int)),y11.2.2.2.2.2)).set n12 (y13.1,y13.2.1,y13.2.2.1,y13.2.2.2.1,y13.2.2.2.2.1,IntKind.wrap .i64 ((IntKind.wrap .i64 ((IntKind.wrap .i64 ((IntKind.wrap .i64 ((IntKind.wrap .i64 (x0.2.1+(1:Int)))+(1:Int)))+(1:Int)))+(1:Int)))+(1:Int)),y13.2.2.2.2.2.2))[n14]? fun y15=>
 bif decide ((3:Int)=0) then
 none
 else bnd (((((((x0.1.set n2 (x0.2.1,y3.2)).set n4 (y5.1,IntKind.wrap .i64 (x0.2.1+(1:Int)),y5.2.2)).set n6 (y7.1,y7.2.1,IntKind.wrap .i64 ((IntKind.wrap .i64 (x0.2.1+(1:Int)))+(1:Int)),y7.2.2.2)).set n8 (y9.1,y9.2.1,y9.2.2.1,IntKind.wrap .i64 ((IntKind.wrap .i64 ((IntKind.wrap .i64 (x0.2.1+(1:Int)))+(1:Int)))+(1:Int)),y9.2.2.2.2)).set n10 (y11.1,y11.2.1,y11.2.2.1,y11.2.2.2.1,IntKind.wrap .i64 ((IntKind.wrap .i64 ((IntKind.wrap .i64 ((IntKind.wrap .i64 (x0.2.1+(1:Int)))+(1:Int)))+(1:Int)))+(1:Int)),y11.2.2.2.2.2)).set n12 (y13.1,y13.2.1,y13.2.2.1,y13.2.2.2.1,y13.2.2.2.2.1,IntKind.wrap .i64 ((IntKind.wrap .i64 ((IntKind.wrap .i64 ((IntKind.wrap .i64 ((IntKind.wrap .i64 (x0.2.1+(1:Int)))+(1:Int)))+(1:Int)))+(1:Int)))+(1:Int)),y13.2.2.2.2.2.2)).set n14 (y15.1,y15.2.1,y15.2.2.1,y15.2.2.2.1,y15.2.2.2.2.1,y15.2.2.2.2.2.1,IntKind.wrap .i64 ((IntKind.wrap .i64 ((IntKind.wrap .i64 ((IntKind.wrap .i64 ((IntKind.wrap .i64 ((IntKind.wrap .i64 (x0.2.1+(1:Int)))+(1:Int)))+(1:Int)))+(1:Int)))+(1:Int)))+(1:Int)),y15.2.2.2.2.2.2.2)).length x0.2.2 fun n16=>
 Option.bind (((((((x0.1.set n2 (x0.2.1,y3.2)).set n4 (y5.1,IntKind.wrap .i64 (x0.2.1+(1:Int)),y5.2.2)).set n6 (y7.1,y7.2.1,IntKind.wrap .i64 ((IntKind.wrap .i64 (x0.2.1+(1:Int)))+(1:Int)),y7.2.2.2)).set n8 (y9.1,y9.2.1,y9.2.2.1,IntKind.wrap .i64 ((IntKind.wrap .i64 ((IntKind.wrap .i64 (x0.2.1+(1:Int)))+(1:Int)))+(1:Int)),y9.2.2.2.2)).set n10 (y11.1,y11.2.1,y11.2.2.1,y11.2.2.2.1,IntKind.wrap .i64 ((IntKind.wrap .i64 ((IntKind.wrap .i64 ((IntKind.wrap .i64 (x0.2.1+(1:Int)))+(1:Int)))+(1:Int)))+(1:Int)),y11.2.2.2.2.2)).set n12 (y13.1,y13.2.1,y13.2.2.1,y13.2.2.2.1,y13.2.2.2.2.1,IntKind.wrap .i64 ((IntKind.wrap .i64 ((IntKind.wrap .i64 ((IntKind.wrap .i64 ((IntKind.wrap .i64 (x0.2.1+(1:Int)))+(1:Int)))+(1:Int)))+(1:Int)))+(1:Int)),y13.2.2.2.2.2.2)).set n14 (y15.1,y15.2.1,y15.2.2.1,y15.2.2.2.1,y15.2.2.2.2.1,y15.2.2.2.2.2.1,IntKind.wrap .i64 ((IntKind.wrap .i64 ((IntKind.wrap .i64 ((IntKind.wrap .i64 ((IntKind.wrap .i64 ((IntKind.wrap .i64 (x0.2.1+(1:Int)))+(1:Int)))+(1:Int)))+(1:Int)))+(1:Int)))+(1:Int)),y15.2.2.2.2.2.2.2))[n16]? fun y17=>
 bnd ((((((((x0.1.set n2 (x0.2.1,y3.2)).set n4 (y5.1,IntKind.wrap .i64 (x0.2.1+(1:Int)),y5.2.2)).set n6 (y7.1,y7.2.1,IntKind.wrap .i64 ((IntKind.wrap .i64 (x0.2.1+(1:Int)))+(1:Int)),y7.2.2.2)).set n8 (y9.1,y9.2.1,y9.2.2.1,IntKind.wrap .i64 ((IntKind.wrap .i64 ((IntKind.wrap .i64 (x0.2.1+(1:Int)))+(1:Int)))+(1:Int)),y9.2.2.2.2)).set n10 (y11.1,y11.2.1,y11.2.2.1,y11.2.2.2.1,IntKind.wrap .i64 ((IntKind.wrap .i64 ((IntKind.wrap .i64 ((IntKind.wrap .i64 (x0.2.1+(1:Int)))+(1:Int)))+(1:Int)))+(1:Int)),y11.2.2.2.2.2)).set n12 (y13.1,y13.2.1,y13.2.2.1,y13.2.2.2.1,y13.2.2.2.2.1,IntKind.wrap .i64 ((IntKind.wrap .i64 ((IntKind.wrap .i64 ((IntKind.wrap .i64 ((IntKind.wrap .i64 (x0.2.1+(1:Int)))+(1:Int)))+(1:Int)))+(1:Int)))+(1:Int)),y13.2.2.2.2.2.2)).set n14 (y15.1,y15.2.1,y15.2.2.1,y15.2.2.2.1,y15.2.2.2.2.1,y15.2.2.2.2.2.1,IntKind.wrap .i64 ((IntKind.wrap .i64 ((IntKind.wrap .i64 ((IntKind.wrap .i64 ((IntKind.wrap .i64 ((IntKind.wrap .i64 (x0.2.1+(1:Int)))+(1:Int)))+(1:Int)))+(1:Int)))+(1:Int)))+(1:Int)),y15.2.2.2.2.2.2.2)).set n16 (y17.1,y17.2.1,y17.2.2.1,y17.2.2.2.1,y17.2.2.2.2.1,y17.2.2.2.2.2.1,y17.2.2.2.2.2.2.1,decide ((Int.tmod (IntKind.wrap .i64 ((IntKind.wrap .i64 ((IntKind.wrap .i64 ((IntKind.wrap .i64 ((IntKind.wrap .i64 ((IntKind.wrap .i64 ((IntKind.wrap .i64 (x0.2.1+(1:Int)))+(1:Int)))+(1:Int)))+(1:Int)))+(1:Int)))+(1:Int)))+(1:Int))) (3:Int))=(0:Int)),y17.2.2.2.2.2.2.2.2)).length x0.2.2 fun n18=>
 Option.bind ((((((((x0.1.set n2 (x0.2.1,y3.2)).set n4 (y5.1,IntKind.wrap .i64 (x0.2.1+(1:Int)),y5.2.2)).set n6 (y7.1,y7.2.1,IntKind.wrap .i64 ((IntKind.wrap .i64 (x0.2.1+(1:Int)))+(1:Int)),y7.2.2.2)).set n8 (y9.1,y9.2.1,y9.2.2.1,IntKind.wrap .i64 ((IntKind.wrap .i64 ((IntKind.wrap .i64 (x0.2.1+(1:Int)))+(1:Int)))+(1:Int)),y9.2.2.2.2)).set n10 (y11.1,y11.2.1,y11.2.2.1,y11.2.2.2.1,IntKind.wrap .i64 ((IntKind.wrap .i64 ((IntKind.wrap .i64 ((IntKind.wrap .i64 (x0.2.1+(1:Int)))+(1:Int)))+(1:Int)))+(1:Int)),y11.2.2.2.2.2)).set n12 (y13.1,y13.2.1,y13.2.2.1,y13.2.2.2.1,y13.2.2.2.2.1,IntKind.wrap .i64 ((IntKind.wrap .i64 ((IntKind.wrap .i64 ((IntKind.wrap .i64 ((IntKind.wrap .i64 (x0.2.1+(1:Int)))+(1:Int)))+(1:Int)))+(1:Int)))+(1:Int)),y13.2.2.2.2.2.2)).set n14 (y15.1,y15.2.1,y15.2.2.1,y15.2.2.2.1,y15.2.2.2.2.1,y15.2.2.2.2.2.1,IntKind.wrap .i64 ((IntKind.wrap .i64 ((IntKind.wrap .i64 ((IntKind.wrap .i64 ((IntKind.wrap .i64 ((IntKind.wrap .i64 (x0.2.1+(1:Int)))+(1:Int)))+(1:Int)))+(1:Int)))+(1:Int)))+(1:Int)),y15.2.2.2.2.2.2.2)).set n16 (y17.1,y17.2.1,y17.2.2.1,y17.2.2.2.1,y17.2.2.2.2.1,y17.2.2.2.2.2.1,y17.2.2.2.2.2.2.1,decide ((Int.tmod (IntKind.wrap .i64 ((IntKind.wrap .i64 ((IntKind.wrap .i64 ((IntKind.wrap .i64 ((IntKind.wrap .i64 ((IntKind.wrap .i64 ((IntKind.wrap .i64 (x0.2.1+(1:Int)))+(1:Int)))+(1:Int)))+(1:Int)))+(1:Int)))+(1:Int)))+(1:Int))) (3:Int))=(0:Int)),y17.2.2.2.2.2.2.2.2))[n18]? fun y19=>
 Option.bind (g_lmarkEdgeS (y19.2.2.2.2.2.2.2.2.1,IntKind.wrap .i64 ((IntKind.wrap .i64 ((IntKind.wrap .i64 ((IntKind.wrap .i64 ((IntKind.wrap .i64 ((IntKind.wrap .i64 ((IntKind.wrap .i64 ((IntKind.wrap .i64 (x0.2.1+(1:Int)))+(1:Int)))+(1:Int)))+(1:Int)))+(1:Int)))+(1:Int)))+(1:Int)))+(1:Int)))) fun r20=>
 Option.bind ((((((((x0.1.set n2 (x0.2.1,y3.2)).set n4 (y5.1,IntKind.wrap .i64 (x0.2.1+(1:Int)),y5.2.2)).set n6 (y7.1,y7.2.1,IntKind.wrap .i64 ((IntKind.wrap .i64 (x0.2.1+(1:Int)))+(1:Int)),y7.2.2.2)).set n8 (y9.1,y9.2.1,y9.2.2.1,IntKind.wrap .i64 ((IntKind.wrap .i64 ((IntKind.wrap .i64 (x0.2.1+(1:Int)))+(1:Int)))+(1:Int)),y9.2.2.2.2)).set n10 (y11.1,y11.2.1,y11.2.2.1,y11.2.2.2.1,IntKind.wrap .i64 ((IntKind.wrap .i64 ((IntKind.wrap .i64 ((IntKind.wrap .i64 (x0.2.1+(1:Int)))+(1:Int)))+(1:Int)))+(1:Int)),y11.2.2.2.2.2)).set n12 (y13.1,y13.2.1,y13.2.2.1,y13.2.2.2.1,y13.2.2.2.2.1,IntKind.wrap .i64 ((IntKind.wrap .i64 ((IntKind.wrap .i64 ((IntKind.wrap .i64 ((IntKind.wrap .i64 (x0.2.1+(1:Int)))+(1:Int)))+(1:Int)))+(1:Int)))+(1:Int)),y13.2.2.2.2.2.2)).set n14 (y15.1,y15.2.1,y15.2.2.1,y15.2.2.2.1,y15.2.2.2.2.1,y15.2.2.2.2.2.1,IntKind.wrap .i64 ((IntKind.wrap .i64 ((IntKind.wrap .i64 ((IntKind.wrap .i64 ((IntKind.wrap .i64 ((IntKind.wrap .i64 (x0.2.1+(1:Int)))+(1:Int)))+(1:Int)))+(1:Int)))+(1:Int)))+(1:Int)),y15.2.2.2.2.2.2.2)).set n16 (y17.1,y17.2.1,y17.2.2.1,y17.2.2.2.1,y17.2.2.2.2.1,y17.2.2.2.2.2.1,y17.2.2.2.2.2.2.1,decide ((Int.tmod (IntKind.wrap .i64 ((IntKind.wrap .i64 ((IntKind.wrap .i64 ((IntKind.wrap .i64 ((IntKind.wrap .i64 ((IntKind.wrap .i64 ((IntKind.wrap .i64 (x0.2.1+(1:Int)))+(1:Int)))+(1:Int)))+(1:Int)))+(1:Int)))+(1:Int)))+(1:Int))) (3:Int))=(0:Int)),y17.2.2.2.2.2.2.2.2))[n18]? fun y21=>
 bnd (((((((((x0.1.set n2 (x0.2.1,y3.2)).set n4 (y5.1,IntKind.wrap .i64 (x0.2.1+(1:Int)),y5.2.2)).set n6 (y7.1,y7.2.1,IntKind.wrap .i64 ((IntKind.wrap .i64 (x0.2.1+(1:Int)))+(1:Int)),y7.2.2.2)).set n8 (y9.1,y9.2.1,y9.2.2.1,IntKind.wrap .i64 ((IntKind.wrap .i64 ((IntKind.wrap .i64 (x0.2.1+(1:Int)))+(1:Int)))+(1:Int)),y9.2.2.2.2)).set n10 (y11.1,y11.2.1,y11.2.2.1,y11.2.2.2.1,IntKind.wrap .i64 ((IntKind.wrap .i64 ((IntKind.wrap .i64 ((IntKind.wrap .i64 (x0.2.1+(1:Int)))+(1:Int)))+(1:Int)))+(1:Int)),y11.2.2.2.2.2)).set n12 (y13.1,y13.2.1,y13.2.2.1,y13.2.2.2.1,y13.2.2.2.2.1,IntKind.wrap .i64 ((IntKind.wrap .i64 ((IntKind.wrap .i64 ((IntKind.wrap .i64 ((IntKind.wrap .i64 (x0.2.1+(1:Int)))+(1:Int)))+(1:Int)))+(1:Int)))+(1:Int)),y13.2.2.2.2.2.2)).set n14 (y15.1,y15.2.1,y15.2.2.1,y15.2.2.2.1,y15.2.2.2.2.1,y15.2.2.2.2.2.1,IntKind.wrap .i64 ((IntKind.wrap .i64 ((IntKind.wrap .i64 ((IntKind.wrap .i64 ((IntKind.wrap .i64 ((IntKind.wrap .i64 (x0.2.1+(1:Int)))+(1:Int)))+(1:Int)))+(1:Int)))+(1:Int)))+(1:Int)),y15.2.2.2.2.2.2.2)).set n16 (y17.1,y17.2.1,y17.2.2.1,y17.2.2.2.1,y17.2.2.2.2.1,y17.2.2.2.2.2.1,y17.2.2.2.2.2.2.1,decide ((Int.tmod (IntKind.wrap .i64 ((IntKind.wrap .i64 ((IntKind.wrap .i64 ((IntKind.wrap .i64 ((IntKind.wrap .i64 ((IntKind.wrap .i64 ((IntKind.wrap .i64 (x0.2.1+(1:Int)))+(1:Int)))+(1:Int)))+(1:Int)))+(1:Int)))+(1:Int)))+(1:Int))) (3:Int))=(0:Int)),y17.2.2.2.2.2.2.2.2)).set n18 (y21.1,y21.2.1,y21.2.2.1,y21.2.2.2.1,y21.2.2.2.2.1,y21.2.2.2.2.2.1,y21.2.2.2.2.2.2.1,y21.2.2.2.2.2.2.2.1,r20.2,y21.2.2.2.2.2.2.2.2.2)).length x0.2.2 fun n22=>
 Option.bind (((((((((x0.1.set n2 (x0.2.1,y3.2)).set n4 (y5.1,IntKind.wrap .i64 (x0.2.1+(1:Int)),y5.2.2)).set n6 (y7.1,y7.2.1,IntKind.wrap .i64 ((IntKind.wrap .i64 (x0.2.1+(1:Int)))+(1:Int)),y7.2.2.2)).set n8 (y9.1,y9.2.1,y9.2.2.1,IntKind.wrap .i64 ((IntKind.wrap .i64 ((IntKind.wrap .i64 (x0.2.1+(1:Int)))+(1:Int)))+(1:Int)),y9.2.2.2.2)).set n10 (y11.1,y11.2.1,y11.2.2.1,y11.2.2.2.1,IntKind.wrap .i64 ((IntKind.wrap .i64 ((IntKind.wrap .i64 ((IntKind.wrap .i64 (x0.2.1+(1:Int)))+(1:Int)))+(1:Int)))+(1:Int)),y11.2.2.2.2.2)).set n12 (y13.1,y13.2.1,y13.2.2.1,y13.2.2.2.1,y13.2.2.2.2.1,IntKind.wrap .i64 ((IntKind.wrap .i64 ((IntKind.wrap .i64 ((IntKind.wrap .i64 ((IntKind.wrap .i64 (x0.2.1+(1:Int)))+(1:Int)))+(1:Int)))+(1:Int)))+(1:Int)),y13.2.2.2.2.2.2)).set n14 (y15.1,y15.2.1,y15.2.2.1,y15.2.2.2.1,y15.2.2.2.2.1,y15.2.2.2.2.2.1,IntKind.wrap .i64 ((IntKind.wrap .i64 ((IntKind.wrap .i64 ((IntKind.wrap .i64 ((IntKind.wrap .i64 ((IntKind.wrap .i64 (x0.2.1+(1:Int)))+(1:Int)))+(1:Int)))+(1:Int)))+(1:Int)))+(1:Int)),y15.2.2.2.2.2.2.2)).set n16 (y17.1,y17.2.1,y17.2.2.1,y17.2.2.2.1,y17.2.2.2.2.1,y17.2.2.2.2.2.1,y17.2.2.2.2.2.2.1,decide ((Int.tmod (IntKind.wrap .i64 ((IntKind.wrap .i64 ((IntKind.wrap .i64 ((IntKind.wrap .i64 ((IntKind.wrap .i64 ((IntKind.wrap .i64 ((IntKind.wrap .i64 (x0.2.1+(1:Int)))+(1:Int)))+(1:Int)))+(1:Int)))+(1:Int)))+(1:Int)))+(1:Int))) (3:Int))=(0:Int)),y17.2.2.2.2.2.2.2.2)).set n18 (y21.1,y21.2.1,y21.2.2.1,y21.2.2.2.1,y21.2.2.2.2.1,y21.2.2.2.2.2.1,y21.2.2.2.2.2.2.1,y21.2.2.2.2.2.2.2.1,r20.2,y21.2.2.2.2.2.2.2.2.2))[n22]? fun y23=>
 Option.bind (g_lmarkIntS (y23.2.2.2.2.2.2.2.2.2.1,r20.1)) fun r24=>
 Option.bind (((((((((x0.1.set n2 (x0.2.1,y3.2)).set n4 (y5.1,IntKind.wrap .i64 (x0.2.1+(1:Int)),y5.2.2)).set n6 (y7.1,y7.2.1,IntKind.wrap .i64 ((IntKind.wrap .i64 (x0.2.1+(1:Int)))+(1:Int)),y7.2.2.2)).set n8 (y9.1,y9.2.1,y9.2.2.1,IntKind.wrap .i64 ((IntKind.wrap .i64 ((IntKind.wrap .i64 (x0.2.1+(1:Int)))+(1:Int)))+(1:Int)),y9.2.2.2.2)).set n10 (y11.1,y11.2.1,y11.2.2.1,y11.2.2.2.1,IntKind.wrap .i64 ((IntKind.wrap .i64 ((IntKind.wrap .i64 ((IntKind.wrap .i64 (x0.2.1+(1:Int)))+(1:Int)))+(1:Int)))+(1:Int)),y11.2.2.2.2.2)).set n12 (y13.1,y13.2.1,y13.2.2.1,y13.2.2.2.1,y13.2.2.2.2.1,IntKind.wrap .i64 ((IntKind.wrap .i64 ((IntKind.wrap .i64 ((IntKind.wrap .i64 ((IntKind.wrap .i64 (x0.2.1+(1:Int)))+(1:Int)))+(1:Int)))+(1:Int)))+(1:Int)),y13.2.2.2.2.2.2)).set n14 (y15.1,y15.2.1,y15.2.2.1,y15.2.2.2.1,y15.2.2.2.2.1,y15.2.2.2.2.2.1,IntKind.wrap .i64 ((IntKind.wrap .i64 ((IntKind.wrap .i64 ((IntKind.wrap .i64 ((IntKind.wrap .i64 ((IntKind.wrap .i64 (x0.2.1+(1:Int)))+(1:Int)))+(1:Int)))+(1:Int)))+(1:Int)))+(1:Int)),y15.2.2.2.2.2.2.2)).set n16 (y17.1,y17.2.1,y17.2.2.1,y17.2.2.2.1,y17.2.2.2.2.1,y17.2.2.2.2.2.1,y17.2.2.2.2.2.2.1,decide ((Int.tmod (IntKind.wrap .i64 ((IntKind.wrap .i64 ((IntKind.wrap .i64 ((IntKind.wrap .i64 ((IntKind.wrap .i64 ((IntKind.wrap .i64 ((IntKind.wrap .i64 (x0.2.1+(1:Int)))+(1:Int)))+(1:Int)))+(1:Int)))+(1:Int)))+(1:Int)))+(1:Int))) (3:Int))=(0:Int)),y17.2.2.2.2.2.2.2.2)).set n18 (y21.1,y21.2.1,y21.2.2.1,y21.2.2.2.1,y21.2.2.2.2.1,y21.2.2.2.2.2.1,y21.2.2.2.2.2.2.1,y21.2.2.2.2.2.2.2.1,r20.2,y21.2.2.2.2.2.2.2.2.2))[n22]? fun y25=>
 bnd ((((((((((x0.1.set n2 (x0.2.1,y3.2)).set n4 (y5.1,IntKind.wrap .i64 (x0.2.1+(1:Int)),y5.2.2)).set n6 (y7.1,y7.2.1,IntKind.wrap .i64 ((IntKind.wrap .i64 (x0.2.1+(1:Int)))+(1:Int)),y7.2.2.2)).set n8 (y9.1,y9.2.1,y9.2.2.1,IntKind.wrap .i64 ((IntKind.wrap .i64 ((IntKind.wrap .i64 (x0.2.1+(1:Int)))+(1:Int)))+(1:Int)),y9.2.2.2.2)).set n10 (y11.1,y11.2.1,y11.2.2.1,y11.2.2.2.1,IntKind.wrap .i64 ((IntKind.wrap .i64 ((IntKind.wrap .i64 ((IntKind.wrap .i64 (x0.2.1+(1:Int)))+(1:Int)))+(1:Int)))+(1:Int)),y11.2.2.2.2.2)).set n12 (y13.1,y13.2.1,y13.2.2.1,y13.2.2.2.1,y13.2.2.2.2.1,IntKind.wrap .i64 ((IntKind.wrap .i64 ((IntKind.wrap .i64 ((IntKind.wrap .i64 ((IntKind.wrap .i64 (x0.2.1+(1:Int)))+(1:Int)))+(1:Int)))+(1:Int)))+(1:Int)),y13.2.2.2.2.2.2)).set n14 (y15.1,y15.2.1,y15.2.2.1,y15.2.2.2.1,y15.2.2.2.2.1,y15.2.2.2.2.2.1,IntKind.wrap .i64 ((IntKind.wrap .i64 ((IntKind.wrap .i64 ((IntKind.wrap .i64 ((IntKind.wrap .i64 ((IntKind.wrap .i64 (x0.2.1+(1:Int)))+(1:Int)))+(1:Int)))+(1:Int)))+(1:Int)))+(1:Int)),y15.2.2.2.2.2.2.2)).set n16 (y17.1,y17.2.1,y17.2.2.1,y17.2.2.2.1,y17.2.2.2.2.1,y17.2.2.2.2.2.1,y17.2.2.2.2.2.2.1,decide ((Int.tmod (IntKind.wrap .i64 ((IntKind.wrap .i64 ((IntKind.wrap .i64 ((IntKind.wrap .i64 ((IntKind.wrap .i64 ((IntKind.wrap .i64 ((IntKind.wrap .i64 (x0.2.1+(1:Int)))+(1:Int)))+(1:Int)))+(1:Int)))+(1:Int)))+(1:Int)))+(1:Int))) (3:Int))=(0:Int)),y17.2.2.2.2.2.2.2.2)).set n18 (y21.1,y21.2.1,y21.2.2.1,y21.2.2.2.1,y21.2.2.2.2.1,y21.2.2.2.2.2.1,y21.2.2.2.2.2.2.1,y21.2.2.2.2.2.2.2.1,r20.2,y21.2.2.2.2.2.2.2.2.2)).set n22 (y25.1,y25.2.1,y25.2.2.1,y25.2.2.2.1,y25.2.2.2.2.1,y25.2.2.2.2.2.1,y25.2.2.2.2.2.2.1,y25.2.2.2.2.2.2.2.1,y25.2.2.2.2.2.2.2.2.1,r24.2,y25.2.2.2.2.2.2.2.2.2.2)).length x0.2.2 fun n26=>
 Option.bind ((((((((((x0.1.set n2 (x0.2.1,y3.2)).set n4 (y5.1,IntKind.wrap .i64 (x0.2.1+(1:Int)),y5.2.2)).set n6 (y7.1,y7.2.1,IntKind.wrap .i64 ((IntKind.wrap .i64 (x0.2.1+(1:Int)))+(1:Int)),y7.2.2.2)).set n8 (y9.1,y9.2.1,y9.2.2.1,IntKind.wrap .i64 ((IntKind.wrap .i64 ((IntKind.wrap .i64 (x0.2.1+(1:Int)))+(1:Int)))+(1:Int)),y9.2.2.2.2)).set n10 (y11.1,y11.2.1,y11.2.2.1,y11.2.2.2.1,IntKind.wrap .i64 ((IntKind.wrap .i64 ((IntKind.wrap .i64 ((IntKind.wrap .i64 (x0.2.1+(1:Int)))+(1:Int)))+(1:Int)))+(1:Int)),y11.2.2.2.2.2)).set n12 (y13.1,y13.2.1,y13.2.2.1,y13.2.2.2.1,y13.2.2.2.2.1,IntKind.wrap .i64 ((IntKind.wrap .i64 ((IntKind.wrap .i64 ((IntKind.wrap .i64 ((IntKind.wrap .i64 (x0.2.1+(1:Int)))+(1:Int)))+(1:Int)))+(1:Int)))+(1:Int)),y13.2.2.2.2.2.2)).set n14 (y15.1,y15.2.1,y15.2.2.1,y15.2.2.2.1,y15.2.2.2.2.1,y15.2.2.2.2.2.1,IntKind.wrap .i64 ((IntKind.wrap .i64 ((IntKind.wrap .i64 ((IntKind.wrap .i64 ((IntKind.wrap .i64 ((IntKind.wrap .i64 (x0.2.1+(1:Int)))+(1:Int)))+(1:Int)))+(1:Int)))+(1:Int)))+(1:Int)),y15.2.2.2.2.2.2.2)).set n16 (y17.1,y17.2.1,y17.2.2.1,y17.2.2.2.1,y17.2.2.2.2.1,y17.2.2.2.2.2.1,y17.2.2.2.2.2.2.1,decide ((Int.tmod (IntKind.wrap .i64 ((IntKind.wrap .i64 ((IntKind.wrap .i64 ((IntKind.wrap .i64 ((IntKind.wrap .i64 ((IntKind.wrap .i64 ((IntKind.wrap .i64 (x0.2.1+(1:Int)))+(1:Int)))+(1:Int)))+(1:Int)))+(1:Int)))+(1:Int)))+(1:Int))) (3:Int))=(0:Int)),y17.2.2.2.2.2.2.2.2)).set n18 (y21.1,y21.2.1,y21.2.2.1,y21.2.2.2.1,y21.2.2.2.2.1,y21.2.2.2.2.2.1,y21.2.2.2.2.2.2.1,y21.2.2.2.2.2.2.2.1,r20.2,y21.2.2.2.2.2.2.2.2.2)).set n22 (y25.1,y25.2.1,y25.2.2.1,y25.2.2.2.1,y25.2.2.2.2.1,y25.2.2.2.2.2.1,y25.2.2.2.2.2.2.1,y25.2.2.2.2.2.2.2.1,y25.2.2.2.2.2.2.2.2.1,r24.2,y25.2.2.2.2.2.2.2.2.2.2))[n26]? fun y27=>
 bnd (((((((((((x0.1.set n2 (x0.2.1,y3.2)).set n4 (y5.1,IntKind.wrap .i64 (x0.2.1+(1:Int)),y5.2.2)).set n6 (y7.1,y7.2.1,IntKind.wrap .i64 ((IntKind.wrap .i64 (x0.2.1+(1:Int)))+(1:Int)),y7.2.2.2)).set n8 (y9.1,y9.2.1,y9.2.2.1,IntKind.wrap .i64 ((IntKind.wrap .i64 ((IntKind.wrap .i64 (x0.2.1+(1:Int)))+(1:Int)))+(1:Int)),y9.2.2.2.2)).set n10 (y11.1,y11.2.1,y11.2.2.1,y11.2.2.2.1,IntKind.wrap .i64 ((IntKind.wrap .i64 ((IntKind.wrap .i64 ((IntKind.wrap .i64 (x0.2.1+(1:Int)))+(1:Int)))+(1:Int)))+(1:Int)),y11.2.2.2.2.2)).set n12 (y13.1,y13.2.1,y13.2.2.1,y13.2.2.2.1,y13.2.2.2.2.1,IntKind.wrap .i64 ((IntKind.wrap .i64 ((IntKind.wrap .i64 ((IntKind.wrap .i64 ((IntKind.wrap .i64 (x0.2.1+(1:Int)))+(1:Int)))+(1:Int)))+(1:Int)))+(1:Int)),y13.2.2.2.2.2.2)).set n14 (y15.1,y15.2.1,y15.2.2.1,y15.2.2.2.1,y15.2.2.2.2.1,y15.2.2.2.2.2.1,IntKind.wrap .i64 ((IntKind.wrap .i64 ((IntKind.wrap .i64 ((IntKind.wrap .i64 ((IntKind.wrap .i64 ((IntKind.wrap .i64 (x0.2.1+(1:Int)))+(1:Int)))+(1:Int)))+(1:Int)))+(1:Int)))+(1:Int)),y15.2.2.2.2.2.2.2)).set n16 (y17.1,y17.2.1,y17.2.2.1,y17.2.2.2.1,y17.2.2.2.2.1,y17.2.2.2.2.2.1,y17.2.2.2.2.2.2.1,decide ((Int.tmod (IntKind.wrap .i64 ((IntKind.wrap .i64 ((IntKind.wrap .i64 ((IntKind.wrap .i64 ((IntKind.wrap .i64 ((IntKind.wrap .i64 ((IntKind.wrap .i64 (x0.2.1+(1:Int)))+(1:Int)))+(1:Int)))+(1:Int)))+(1:Int)))+(1:Int)))+(1:Int))) (3:Int))=(0:Int)),y17.2.2.2.2.2.2.2.2)).set n18 (y21.1,y21.2.1,y21.2.2.1,y21.2.2.2.1,y21.2.2.2.2.1,y21.2.2.2.2.2.1,y21.2.2.2.2.2.2.1,y21.2.2.2.2.2.2.2.1,r20.2,y21.2.2.2.2.2.2.2.2.2)).set n22 (y25.1,y25.2.1,y25.2.2.1,y25.2.2.2.1,y25.2.2.2.2.1,y25.2.2.2.2.2.1,y25.2.2.2.2.2.2.1,y25.2.2.2.2.2.2.2.1,y25.2.2.2.2.2.2.2.2.1,r24.2,y25.2.2.2.2.2.2.2.2.2.2)).set n26 (y27.1,y27.2.1,y27.2.2.1,y27.2.2.2.1,y27.2.2.2.2.1,y27.2.2.2.2.2.1,y27.2.2.2.2.2.2.1,y27.2.2.2.2.2.2.2.1,y27.2.2.2.2.2.2.2.2.1,y27.2.2.2.2.2.2.2.2.2.1,r24.1,y27.2.2.2.2.2.2.2.2.2.2.2)).length x0.2.2 fun n28=>
 Option.bind (((((((((((x0.1.set n2 (x0.2.1,y3.2)).set n4 (y5.1,IntKind.wrap .i64 (x0.2.1+(1:Int)),y5.2.2)).set n6 (y7.1,y7.2.1,IntKind.wrap .i64 ((IntKind.wrap .i64 (x0.2.1+(1:Int)))+(1:Int)),y7.2.2.2)).set n8 (y9.1,y9.2.1,y9.2.2.1,IntKind.wrap .i64 ((IntKind.wrap .i64 ((IntKind.wrap .i64 (x0.2.1+(1:Int)))+(1:Int)))+(1:Int)),y9.2.2.2.2)).set n10 (y11.1,y11.2.1,y11.2.2.1,y11.2.2.2.1,IntKind.wrap .i64 ((IntKind.wrap .i64 ((IntKind.wrap .i64 ((IntKind.wrap .i64 (x0.2.1+(1:Int)))+(1:Int)))+(1:Int)))+(1:Int)),y11.2.2.2.2.2)).set n12 (y13.1,y13.2.1,y13.2.2.1,y13.2.2.2.1,y13.2.2.2.2.1,IntKind.wrap .i64 ((IntKind.wrap .i64 ((IntKind.wrap .i64 ((IntKind.wrap .i64 ((IntKind.wrap .i64 (x0.2.1+(1:Int)))+(1:Int)))+(1:Int)))+(1:Int)))+(1:Int)),y13.2.2.2.2.2.2)).set n14 (y15.1,y15.2.1,y15.2.2.1,y15.2.2.2.1,y15.2.2.2.2.1,y15.2.2.2.2.2.1,IntKind.wrap .i64 ((IntKind.wrap .i64 ((IntKind.wrap .i64 ((IntKind.wrap .i64 ((IntKind.wrap .i64 ((IntKind.wrap .i64 (x0.2.1+(1:Int)))+(1:Int)))+(1:Int)))+(1:Int)))+(1:Int)))+(1:Int)),y15.2.2.2.2.2.2.2)).set n16 (y17.1,y17.2.1,y17.2.2.1,y17.2.2.2.1,y17.2.2.2.2.1,y17.2.2.2.2.2.1,y17.2.2.2.2.2.2.1,decide ((Int.tmod (IntKind.wrap .i64 ((IntKind.wrap .i64 ((IntKind.wrap .i64 ((IntKind.wrap .i64 ((IntKind.wrap .i64 ((IntKind.wrap .i64 ((IntKind.wrap .i64 (x0.2.1+(1:Int)))+(1:Int)))+(1:Int)))+(1:Int)))+(1:Int)))+(1:Int)))+(1:Int))) (3:Int))=(0:Int)),y17.2.2.2.2.2.2.2.2)).set n18 (y21.1,y21.2.1,y21.2.2.1,y21.2.2.2.1,y21.2.2.2.2.1,y21.2.2.2.2.2.1,y21.2.2.2.2.2.2.1,y21.2.2.2.2.2.2.2.1,r20.2,y21.2.2.2.2.2.2.2.2.2)).set n22 (y25.1,y25.2.1,y25.2.2.1,y25.2.2.2.1,y25.2.2.2.2.1,y25.2.2.2.2.2.1,y25.2.2.2.2.2.2.1,y25.2.2.2.2.2.2.2.1,y25.2.2.2.2.2.2.2.2.1,r24.2,y25.2.2.2.2.2.2.2.2.2.2)).set n26 (y27.1,y27.2.1,y27.2.2.1,y27.2.2.2.1,y27.2.2.2.2.1,y27.2.2.2.2.2.1,y27.2.2.2.2.2.2.1,y27.2.2.2.2.2.2.2.1,y27.2.2.2.2.2.2.2.2.1,y27.2.2.2.2.2.2.2.2.2.1,r24.1,y27.2.2.2.2.2.2.2.2.2.2.2))[n28]? fun y29=>
 bnd ((((((((((((x0.1.set n2 (x0.2.1,y3.2)).set n4 (y5.1,IntKind.wrap .i64 (x0.2.1+(1:Int)),y5.2.2)).set n6 (y7.1,y7.2.1,IntKind.wrap .i64 ((IntKind.wrap .i64 (x0.2.1+(1:Int)))+(1:Int)),y7.2.2.2)).set n8 (y9.1,y9.2.1,y9.2.2.1,IntKind.wrap .i64 ((IntKind.wrap .i64 ((IntKind.wrap .i64 (x0.2.1+(1:Int)))+(1:Int)))+(1:Int)),y9.2.2.2.2)).set n10 (y11.1,y11.2.1,y11.2.2.1,y11.2.2.2.1,IntKind.wrap .i64 ((IntKind.wrap .i64 ((IntKind.wrap .i64 ((IntKind.wrap .i64 (x0.2.1+(1:Int)))+(1:Int)))+(1:Int)))+(1:Int)),y11.2.2.2.2.2)).set n12 (y13.1,y13.2.1,y13.2.2.1,y13.2.2.2.1,y13.2.2.2.2.1,IntKind.wrap .i64 ((IntKind.wrap .i64 ((IntKind.wrap .i64 ((IntKind.wrap .i64 ((IntKind.wrap .i64 (x0.2.1+(1:Int)))+(1:Int)))+(1:Int)))+(1:Int)))+(1:Int)),y13.2.2.2.2.2.2)).set n14 (y15.1,y15.2.1,y15.2.2.1,y15.2.2.2.1,y15.2.2.2.2.1,y15.2.2.2.2.2.1,IntKind.wrap .i64 ((IntKind.wrap .i64 ((IntKind.wrap .i64 ((IntKind.wrap .i64 ((IntKind.wrap .i64 ((IntKind.wrap .i64 (x0.2.1+(1:Int)))+(1:Int)))+(1:Int)))+(1:Int)))+(1:Int)))+(1:Int)),y15.2.2.2.2.2.2.2)).set n16 (y17.1,y17.2.1,y17.2.2.1,y17.2.2.2.1,y17.2.2.2.2.1,y17.2.2.2.2.2.1,y17.2.2.2.2.2.2.1,decide ((Int.tmod (IntKind.wrap .i64 ((IntKind.wrap .i64 ((IntKind.wrap .i64 ((IntKind.wrap .i64 ((IntKind.wrap .i64 ((IntKind.wrap .i64 ((IntKind.wrap .i64 (x0.2.1+(1:Int)))+(1:Int)))+(1:Int)))+(1:Int)))+(1:Int)))+(1:Int)))+(1:Int))) (3:Int))=(0:Int)),y17.2.2.2.2.2.2.2.2)).set n18 (y21.1,y21.2.1,y21.2.2.1,y21.2.2.2.1,y21.2.2.2.2.1,y21.2.2.2.2.2.1,y21.2.2.2.2.2.2.1,y21.2.2.2.2.2.2.2.1,r20.2,y21.2.2.2.2.2.2.2.2.2)).set n22 (y25.1,y25.2.1,y25.2.2.1,y25.2.2.2.1,y25.2.2.2.2.1,y25.2.2.2.2.2.1,y25.2.2.2.2.2.2.1,y25.2.2.2.2.2.2.2.1,y25.2.2.2.2.2.2.2.2.1,r24.2,y25.2.2.2.2.2.2.2.2.2.2)).set n26 (y27.1,y27.2.1,y27.2.2.1,y27.2.2.2.1,y27.2.2.2.2.1,y27.2.2.2.2.2.1,y27.2.2.2.2.2.2.1,y27.2.2.2.2.2.2.2.1,y27.2.2.2.2.2.2.2.2.1,y27.2.2.2.2.2.2.2.2.2.1,r24.1,y27.2.2.2.2.2.2.2.2.2.2.2)).set n28 (y29.1,y29.2.1,y29.2.2.1,y29.2.2.2.1,y29.2.2.2.2.1,y29.2.2.2.2.2.1,y29.2.2.2.2.2.2.1,y29.2.2.2.2.2.2.2.1,y29.2.2.2.2.2.2.2.2.1,y29.2.2.2.2.2.2.2.2.2.1,y29.2.2.2.2.2.2.2.2.2.2.1,IntKind.wrap .i64 (r24.1+(1:Int)),y29.2.2.2.2.2.2.2.2.2.2.2.2)).length x0.2.2 fun n30=>
 Option.bind ((((((((((((x0.1.set n2 (x0.2.1,y3.2)).set n4 (y5.1,IntKind.wrap .i64 (x0.2.1+(1:Int)),y5.2.2)).set n6 (y7.1,y7.2.1,IntKind.wrap .i64 ((IntKind.wrap .i64 (x0.2.1+(1:Int)))+(1:Int)),y7.2.2.2)).set n8 (y9.1,y9.2.1,y9.2.2.1,IntKind.wrap .i64 ((IntKind.wrap .i64 ((IntKind.wrap .i64 (x0.2.1+(1:Int)))+(1:Int)))+(1:Int)),y9.2.2.2.2)).set n10 (y11.1,y11.2.1,y11.2.2.1,y11.2.2.2.1,IntKind.wrap .i64 ((IntKind.wrap .i64 ((IntKind.wrap .i64 ((IntKind.wrap .i64 (x0.2.1+(1:Int)))+(1:Int)))+(1:Int)))+(1:Int)),y11.2.2.2.2.2)).set n12 (y13.1,y13.2.1,y13.2.2.1,y13.2.2.2.1,y13.2.2.2.2.1,IntKind.wrap .i64 ((IntKind.wrap .i64 ((IntKind.wrap .i64 ((IntKind.wrap .i64 ((IntKind.wrap .i64 (x0.2.1+(1:Int)))+(1:Int)))+(1:Int)))+(1:Int)))+(1:Int)),y13.2.2.2.2.2.2)).set n14 (y15.1,y15.2.1,y15.2.2.1,y15.2.2.2.1,y15.2.2.2.2.1,y15.2.2.2.2.2.1,IntKind.wrap .i64 ((IntKind.wrap .i64 ((IntKind.wrap .i64 ((IntKind.wrap .i64 ((IntKind.wrap .i64 ((IntKind.wrap .i64 (x0.2.1+(1:Int)))+(1:Int)))+(1:Int)))+(1:Int)))+(1:Int)))+(1:Int)),y15.2.2.2.2.2.2.2)).set n16 (y17.1,y17.2.1,y17.2.2.1,y17.2.2.2.1,y17.2.2.2.2.1,y17.2.2.2.2.2.1,y17.2.2.2.2.2.2.1,decide ((Int.tmod (IntKind.wrap .i64 ((IntKind.wrap .i64 ((IntKind.wrap .i64 ((IntKind.wrap .i64 ((IntKind.wrap .i64 ((IntKind.wrap .i64 ((IntKind.wrap .i64 (x0.2.1+(1:Int)))+(1:Int)))+(1:Int)))+(1:Int)))+(1:Int)))+(1:Int)))+(1:Int))) (3:Int))=(0:Int)),y17.2.2.2.2.2.2.2.2)).set n18 (y21.1,y21.2.1,y21.2.2.1,y21.2.2.2.1,y21.2.2.2.2.1,y21.2.2.2.2.2.1,y21.2.2.2.2.2.2.1,y21.2.2.2.2.2.2.2.1,r20.2,y21.2.2.2.2.2.2.2.2.2)).set n22 (y25.1,y25.2.1,y25.2.2.1,y25.2.2.2.1,y25.2.2.2.2.1,y25.2.2.2.2.2.1,y25.2.2.2.2.2.2.1,y25.2.2.2.2.2.2.2.1,y25.2.2.2.2.2.2.2.2.1,r24.2,y25.2.2.2.2.2.2.2.2.2.2)).set n26 (y27.1,y27.2.1,y27.2.2.1,y27.2.2.2.1,y27.2.2.2.2.1,y27.2.2.2.2.2.1,y27.2.2.2.2.2.2.1,y27.2.2.2.2.2.2.2.1,y27.2.2.2.2.2.2.2.2.1,y27.2.2.2.2.2.2.2.2.2.1,r24.1,y27.2.2.2.2.2.2.2.2.2.2.2)).set n28 (y29.1,y29.2.1,y29.2.2.1,y29.2.2.2.1,y29.2.2.2.2.1,y29.2.2.2.2.2.1,y29.2.2.2.2.2.2.1,y29.2.2.2.2.2.2.2.1,y29.2.2.2.2.2.2.2.2.1,y29.2.2.2.2.2.2.2.2.2.1,y29.2.2.2.2.2.2.2.2.2.2.1,IntKind.wrap .i64 (r24.1+(1:Int)),y29.2.2.2.2.2.2.2.2.2.2.2.2))[n30]? fun y31=>
 Option.bind (g_lmarkEdgeS (y31.2.2.2.2.2.2.2.2.2.2.2.2.1,IntKind.wrap .i64 ((IntKind.wrap .i64 (r24.1+(1:Int)))+(1:Int)))) fun r32=>
 Option.bind ((((((((((((x0.1.set n2 (x0.2.1,y3.2)).set n4 (y5.1,IntKind.wrap .i64 (x0.2.1+(1:Int)),y5.2.2)).set n6 (y7.1,y7.2.1,IntKind.wrap .i64 ((IntKind.wrap .i64 (x0.2.1+(1:Int)))+(1:Int)),y7.2.2.2)).set n8 (y9.1,y9.2.1,y9.2.2.1,IntKind.wrap .i64 ((IntKind.wrap .i64 ((IntKind.wrap .i64 (x0.2.1+(1:Int)))+(1:Int)))+(1:Int)),y9.2.2.2.2)).set n10 (y11.1,y11.2.1,y11.2.2.1,y11.2.2.2.1,IntKind.wrap .i64 ((IntKind.wrap .i64 ((IntKind.wrap .i64 ((IntKind.wrap .i64 (x0.2.1+(1:Int)))+(1:Int)))+(1:Int)))+(1:Int)),y11.2.2.2.2.2)).set n12 (y13.1,y13.2.1,y13.2.2.1,y13.2.2.2.1,y13.2.2.2.2.1,IntKind.wrap .i64 ((IntKind.wrap .i64 ((IntKind.wrap .i64 ((IntKind.wrap .i64 ((IntKind.wrap .i64 (x0.2.1+(1:Int)))+(1:Int)))+(1:Int)))+(1:Int)))+(1:Int)),y13.2.2.2.2.2.2)).set n14 (y15.1,y15.2.1,y15.2.2.1,y15.2.2.2.1,y15.2.2.2.2.1,y15.2.2.2.2.2.1,IntKind.wrap .i64 ((IntKind.wrap .i64 ((IntKind.wrap .i64 ((IntKind.wrap .i64 ((IntKind.wrap .i64 ((IntKind.wrap .i64 (x0.2.1+(1:Int)))+(1:Int)))+(1:Int)))+(1:Int)))+(1:Int)))+(1:Int)),y15.2.2.2.2.2.2.2)).set n16 (y17.1,y17.2.1,y17.2.2.1,y17.2.2.2.1,y17.2.2.2.2.1,y17.2.2.2.2.2.1,y17.2.2.2.2.2.2.1,decide ((Int.tmod (IntKind.wrap .i64 ((IntKind.wrap .i64 ((IntKind.wrap .i64 ((IntKind.wrap .i64 ((IntKind.wrap .i64 ((IntKind.wrap .i64 ((IntKind.wrap .i64 (x0.2.1+(1:Int)))+(1:Int)))+(1:Int)))+(1:Int)))+(1:Int)))+(1:Int)))+(1:Int))) (3:Int))=(0:Int)),y17.2.2.2.2.2.2.2.2)).set n18 (y21.1,y21.2.1,y21.2.2.1,y21.2.2.2.1,y21.2.2.2.2.1,y21.2.2.2.2.2.1,y21.2.2.2.2.2.2.1,y21.2.2.2.2.2.2.2.1,r20.2,y21.2.2.2.2.2.2.2.2.2)).set n22 (y25.1,y25.2.1,y25.2.2.1,y25.2.2.2.1,y25.2.2.2.2.1,y25.2.2.2.2.2.1,y25.2.2.2.2.2.2.1,y25.2.2.2.2.2.2.2.1,y25.2.2.2.2.2.2.2.2.1,r24.2,y25.2.2.2.2.2.2.2.2.2.2)).set n26 (y27.1,y27.2.1,y27.2.2.1,y27.2.2.2.1,y27.2.2.2.2.1,y27.2.2.2.2.2.1,y27.2.2.2.2.2.2.1,y27.2.2.2.2.2.2.2.1,y27.2.2.2.2.2.2.2.2.1,y27.2.2.2.2.2.2.2.2.2.1,r24.1,y27.2.2.2.2.2.2.2.2.2.2.2)).set n28 (y29.1,y29.2.1,y29.2.2.1,y29.2.2.2.1,y29.2.2.2.2.1,y29.2.2.2.2.2.1,y29.2.2.2.2.2.2.1,y29.2.2.2.2.2.2.2.1,y29.2.2.2.2.2.2.2.2.1,y29.2.2.2.2.2.2.2.2.2.1,y29.2.2.2.2.2.2.2.2.2.2.1,IntKind.wrap .i64 (r24.1+(1:Int)),y29.2.2.2.2.2.2.2.2.2.2.2.2))[n30]? fun y33=>
 bnd (((((((((((((x0.1.set n2 (x0.2.1,y3.2)).set n4 (y5.1,IntKind.wrap .i64 (x0.2.1+(1:Int)),y5.2.2)).set n6 (y7.1,y7.2.1,IntKind.wrap .i64 ((IntKind.wrap .i64 (x0.2.1+(1:Int)))+(1:Int)),y7.2.2.2)).set n8 (y9.1,y9.2.1,y9.2.2.1,IntKind.wrap .i64 ((IntKind.wrap .i64 ((IntKind.wrap .i64 (x0.2.1+(1:Int)))+(1:Int)))+(1:Int)),y9.2.2.2.2)).set n10 (y11.1,y11.2.1,y11.2.2.1,y11.2.2.2.1,IntKind.wrap .i64 ((IntKind.wrap .i64 ((IntKind.wrap .i64 ((IntKind.wrap .i64 (x0.2.1+(1:Int)))+(1:Int)))+(1:Int)))+(1:Int)),y11.2.2.2.2.2)).set n12 (y13.1,y13.2.1,y13.2.2.1,y13.2.2.2.1,y13.2.2.2.2.1,IntKind.wrap .i64 ((IntKind.wrap .i64 ((IntKind.wrap .i64 ((IntKind.wrap .i64 ((IntKind.wrap .i64 (x0.2.1+(1:Int)))+(1:Int)))+(1:Int)))+(1:Int)))+(1:Int)),y13.2.2.2.2.2.2)).set n14 (y15.1,y15.2.1,y15.2.2.1,y15.2.2.2.1,y15.2.2.2.2.1,y15.2.2.2.2.2.1,IntKind.wrap .i64 ((IntKind.wrap .i64 ((IntKind.wrap .i64 ((IntKind.wrap .i64 ((IntKind.wrap .i64 ((IntKind.wrap .i64 (x0.2.1+(1:Int)))+(1:Int)))+(1:Int)))+(1:Int)))+(1:Int)))+(1:Int)),y15.2.2.2.2.2.2.2)).set n16 (y17.1,y17.2.1,y17.2.2.1,y17.2.2.2.1,y17.2.2.2.2.1,y17.2.2.2.2.2.1,y17.2.2.2.2.2.2.1,decide ((Int.tmod (IntKind.wrap .i64 ((IntKind.wrap .i64 ((IntKind.wrap .i64 ((IntKind.wrap .i64 ((IntKind.wrap .i64 ((IntKind.wrap .i64 ((IntKind.wrap .i64 (x0.2.1+(1:Int)))+(1:Int)))+(1:Int)))+(1:Int)))+(1:Int)))+(1:Int)))+(1:Int))) (3:Int))=(0:Int)),y17.2.2.2.2.2.2.2.2)).set n18 (y21.1,y21.2.1,y21.2.2.1,y21.2.2.2.1,y21.2.2.2.2.1,y21.2.2.2.2.2.1,y21.2.2.2.2.2.2.1,y21.2.2.2.2.2.2.2.1,r20.2,y21.2.2.2.2.2.2.2.2.2)).set n22 (y25.1,y25.2.1,y25.2.2.1,y25.2.2.2.1,y25.2.2.2.2.1,y25.2.2.2.2.2.1,y25.2.2.2.2.2.2.1,y25.2.2.2.2.2.2.2.1,y25.2.2.2.2.2.2.2.2.1,r24.2,y25.2.2.2.2.2.2.2.2.2.2)).set n26 (y27.1,y27.2.1,y27.2.2.1,y27.2.2.2.1,y27.2.2.2.2.1,y27.2.2.2.2.2.1,y27.2.2.2.2.2.2.1,y27.2.2.2.2.2.2.2.1,y27.2.2.2.2.2.2.2.2.1,y27.2.2.2.2.2.2.2.2.2.1,r24.1,y27.2.2.2.2.2.2.2.2.2.2.2)).set n28 (y29.1,y29.2.1,y29.2.2.1,y29.2.2.2.1,y29.2.2.2.2.1,y29.2.2.2.2.2.1,y29.2.2.2.2.2.2.1,y29.2.2.2.2.2.2.2.1,y29.2.2.2.2.2.2.2.2.1,y29.2.2.2.2.2.2.2.2.2.1,y29.2.2.2.2.2.2.2.2.2.2.1,IntKind.wrap .i64 (r24.1+(1:Int)),y29.2.2.2.2.2.2.2.2.2.2.2.2)).set n30 (y33.1,y33.2.1,y33.2.2.1,y33.2.2.2.1,y33.2.2.2.2.1,y33.2.2.2.2.2.1,y33.2.2.2.2.2.2.1,y33.2.2.2.2.2.2.2.1,y33.2.2.2.2.2.2.2.2.1,y33.2.2.2.2.2.2.2.2.2.1,y33.2.2.2.2.2.2.2.2.2.2.1,y33.2.2.2.2.2.2.2.2.2.2.2.1,r32.2,y33.2.2.2.2.2.2.2.2.2.2.2.2.2)).length x0.2.2 fun n34=>
 Option.bind (((((((((((((x0.1.set n2 (x0.2.1,y3.2)).set n4 (y5.1,IntKind.wrap .i64 (x0.2.1+(1:Int)),y5.2.2)).set n6 (y7.1,y7.2.1,IntKind.wrap .i64 ((IntKind.wrap .i64 (x0.2.1+(1:Int)))+(1:Int)),y7.2.2.2)).set n8 (y9.1,y9.2.1,y9.2.2.1,IntKind.wrap .i64 ((IntKind.wrap .i64 ((IntKind.wrap .i64 (x0.2.1+(1:Int)))+(1:Int)))+(1:Int)),y9.2.2.2.2)).set n10 (y11.1,y11.2.1,y11.2.2.1,y11.2.2.2.1,IntKind.wrap .i64 ((IntKind.wrap .i64 ((IntKind.wrap .i64 ((IntKind.wrap .i64 (x0.2.1+(1:Int)))+(1:Int)))+(1:Int)))+(1:Int)),y11.2.2.2.2.2)).set n12 (y13.1,y13.2.1,y13.2.2.1,y13.2.2.2.1,y13.2.2.2.2.1,IntKind.wrap .i64 ((IntKind.wrap .i64 ((IntKind.wrap .i64 ((IntKind.wrap .i64 ((IntKind.wrap .i64 (x0.2.1+(1:Int)))+(1:Int)))+(1:Int)))+(1:Int)))+(1:Int)),y13.2.2.2.2.2.2)).set n14 (y15.1,y15.2.1,y15.2.2.1,y15.2.2.2.1,y15.2.2.2.2.1,y15.2.2.2.2.2.1,IntKind.wrap .i64 ((IntKind.wrap .i64 ((IntKind.wrap .i64 ((IntKind.wrap .i64 ((IntKind.wrap .i64 ((IntKind.wrap .i64 (x0.2.1+(1:Int)))+(1:Int)))+(1:Int)))+(1:Int)))+(1:Int)))+(1:Int)),y15.2.2.2.2.2.2.2)).set n16 (y17.1,y17.2.1,y17.2.2.1,y17.2.2.2.1,y17.2.2.2.2.1,y17.2.2.2.2.2.1,y17.2.2.2.2.2.2.1,decide ((Int.tmod (IntKind.wrap .i64 ((IntKind.wrap .i64 ((IntKind.wrap .i64 ((IntKind.wrap .i64 ((IntKind.wrap .i64 ((IntKind.wrap .i64 ((IntKind.wrap .i64 (x0.2.1+(1:Int)))+(1:Int)))+(1:Int)))+(1:Int)))+(1:Int)))+(1:Int)))+(1:Int))) (3:Int))=(0:Int)),y17.2.2.2.2.2.2.2.2)).set n18 (y21.1,y21.2.1,y21.2.2.1,y21.2.2.2.1,y21.2.2.2.2.1,y21.2.2.2.2.2.1,y21.2.2.2.2.2.2.1,y21.2.2.2.2.2.2.2.1,r20.2,y21.2.2.2.2.2.2.2.2.2)).set n22 (y25.1,y25.2.1,y25.2.2.1,y25.2.2.2.1,y25.2.2.2.2.1,y25.2.2.2.2.2.1,y25.2.2.2.2.2.2.1,y25.2.2.2.2.2.2.2.1,y25.2.2.2.2.2.2.2.2.1,r24.2,y25.2.2.2.2.2.2.2.2.2.2)).set n26 (y27.1,y27.2.1,y27.2.2.1,y27.2.2.2.1,y27.2.2.2.2.1,y27.2.2.2.2.2.1,y27.2.2.2.2.2.2.1,y27.2.2.2.2.2.2.2.1,y27.2.2.2.2.2.2.2.2.1,y27.2.2.2.2.2.2.2.2.2.1,r24.1,y27.2.2.2.2.2.2.2.2.2.2.2)).set n28 (y29.1,y29.2.1,y29.2.2.1,y29.2.2.2.1,y29.2.2.2.2.1,y29.2.2.2.2.2.1,y29.2.2.2.2.2.2.1,y29.2.2.2.2.2.2.2.1,y29.2.2.2.2.2.2.2.2.1,y29.2.2.2.2.2.2.2.2.2.1,y29.2.2.2.2.2.2.2.2.2.2.1,IntKind.wrap .i64 (r24.1+(1:Int)),y29.2.2.2.2.2.2.2.2.2.2.2.2)).set n30 (y33.1,y33.2.1,y33.2.2.1,y33.2.2.2.1,y33.2.2.2.2.1,y33.2.2.2.2.2.1,y33.2.2.2.2.2.2.1,y33.2.2.2.2.2.2.2.1,y33.2.2.2.2.2.2.2.2.1,y33.2.2.2.2.2.2.2.2.2.1,y33.2.2.2.2.2.2.2.2.2.2.1,y33.2.2.2.2.2.2.2.2.2.2.2.1,r32.2,y33.2.2.2.2.2.2.2.2.2.2.2.2.2))[n34]? fun y35=>
 self1 ((((((((((((((x0.1.set n2 (x0.2.1,y3.2)).set n4 (y5.1,IntKind.wrap .i64 (x0.2.1+(1:Int)),y5.2.2)).set n6 (y7.1,y7.2.1,IntKind.wrap .i64 ((IntKind.wrap .i64 (x0.2.1+(1:Int)))+(1:Int)),y7.2.2.2)).set n8 (y9.1,y9.2.1,y9.2.2.1,IntKind.wrap .i64 ((IntKind.wrap .i64 ((IntKind.wrap .i64 (x0.2.1+(1:Int)))+(1:Int)))+(1:Int)),y9.2.2.2.2)).set n10 (y11.1,y11.2.1,y11.2.2.1,y11.2.2.2.1,IntKind.wrap .i64 ((IntKind.wrap .i64 ((IntKind.wrap .i64 ((IntKind.wrap .i64 (x0.2.1+(1:Int)))+(1:Int)))+(1:Int)))+(1:Int)),y11.2.2.2.2.2)).set n12 (y13.1,y13.2.1,y13.2.2.1,y13.2.2.2.1,y13.2.2.2.2.1,IntKind.wrap .i64 ((IntKind.wrap .i64 ((IntKind.wrap .i64 ((IntKind.wrap .i64 ((IntKind.wrap .i64 (x0.2.1+(1:Int)))+(1:Int)))+(1:Int)))+(1:Int)))+(1:Int)),y13.2.2.2.2.2.2)).set n14 (y15.1,y15.2.1,y15.2.2.1,y15.2.2.2.1,y15.2.2.2.2.1,y15.2.2.2.2.2.1,IntKind.wrap .i64 ((IntKind.wrap .i64 ((IntKind.wrap .i64 ((IntKind.wrap .i64 ((IntKind.wrap .i64 ((IntKind.wrap .i64 (x0.2.1+(1:Int)))+(1:Int)))+(1:Int)))+(1:Int)))+(1:Int)))+(1:Int)),y15.2.2.2.2.2.2.2)).set n16 (y17.1,y17.2.1,y17.2.2.1,y17.2.2.2.1,y17.2.2.2.2.1,y17.2.2.2.2.2.1,y17.2.2.2.2.2.2.1,decide ((Int.tmod (IntKind.wrap .i64 ((IntKind.wrap .i64 ((IntKind.wrap .i64 ((IntKind.wrap .i64 ((IntKind.wrap .i64 ((IntKind.wrap .i64 ((IntKind.wrap .i64 (x0.2.1+(1:Int)))+(1:Int)))+(1:Int)))+(1:Int)))+(1:Int)))+(1:Int)))+(1:Int))) (3:Int))=(0:Int)),y17.2.2.2.2.2.2.2.2)).set n18 (y21.1,y21.2.1,y21.2.2.1,y21.2.2.2.1,y21.2.2.2.2.1,y21.2.2.2.2.2.1,y21.2.2.2.2.2.2.1,y21.2.2.2.2.2.2.2.1,r20.2,y21.2.2.2.2.2.2.2.2.2)).set n22 (y25.1,y25.2.1,y25.2.2.1,y25.2.2.2.1,y25.2.2.2.2.1,y25.2.2.2.2.2.1,y25.2.2.2.2.2.2.1,y25.2.2.2.2.2.2.2.1,y25.2.2.2.2.2.2.2.2.1,r24.2,y25.2.2.2.2.2.2.2.2.2.2)).set n26 (y27.1,y27.2.1,y27.2.2.1,y27.2.2.2.1,y27.2.2.2.2.1,y27.2.2.2.2.2.1,y27.2.2.2.2.2.2.1,y27.2.2.2.2.2.2.2.1,y27.2.2.2.2.2.2.2.2.1,y27.2.2.2.2.2.2.2.2.2.1,r24.1,y27.2.2.2.2.2.2.2.2.2.2.2)).set n28 (y29.1,y29.2.1,y29.2.2.1,y29.2.2.2.1,y29.2.2.2.2.1,y29.2.2.2.2.2.1,y29.2.2.2.2.2.2.1,y29.2.2.2.2.2.2.2.1,y29.2.2.2.2.2.2.2.2.1,y29.2.2.2.2.2.2.2.2.2.1,y29.2.2.2.2.2.2.2.2.2.2.1,IntKind.wrap .i64 (r24.1+(1:Int)),y29.2.2.2.2.2.2.2.2.2.2.2.2)).set n30 (y33.1,y33.2.1,y33.2.2.1,y33.2.2.2.1,y33.2.2.2.2.1,y33.2.2.2.2.2.1,y33.2.2.2.2.2.2.1,y33.2.2.2.2.2.2.2.1,y33.2.2.2.2.2.2.2.2.1,y33.2.2.2.2.2.2.2.2.2.1,y33.2.2.2.2.2.2.2.2.2.2.1,y33.2.2.2.2.2.2.2.2.2.2.2.1,r32.2,y33.2.2.2.2.2.2.2.2.2.2.2.2.2)).set n34 (y35.1,y35.2.1,y35.2.2.1,y35.2.2.2.1,y35.2.2.2.2.1,y35.2.2.2.2.2.1,y35.2.2.2.2.2.2.1,y35.2.2.2.2.2.2.2.1,y35.2.2.2.2.2.2.2.2.1,y35.2.2.2.2.2.2.2.2.2.1,y35.2.2.2.2.2.2.2.2.2.2.1,y35.2.2.2.2.2.2.2.2.2.2.2.1,y35.2.2.2.2.2.2.2.2.2.2.2.2.1,r32.1),IntKind.wrap .i64 (r32.1+(1:Int)),IntKind.wrap .i64 (x0.2.2+(1:Int)))
 else some (x0.1,x0.2.1)) (a0,a1,(0:Int)):Option ((List (Int × Int × Int × Int × Int × Int × Int × Bool × (List (Int × Int)) × (List (Int)) × Int × Int × (List (Int × Int)) × Int)) × Int)) fun x36=>
 some (x36.2,x36.1):=by kernel_rfl
def c_lmarkSaidS:TC:=
 (.seq (.rg [o1 4 (kL 0)])
 (.seq (.join [⟨0,Ty7,false⟩,⟨1,[.i .i64],false⟩] 288230376151711715 none (.seq (.rg [o1 5 (kL 0)])
 (.block 0 (.loop [⟨0,Ty7,false⟩,⟨1,[.i .i64],false⟩,⟨5,[.i .i64],false⟩] 288230376151711715
 (.seq (.seq (.rg [oc 6 5,
 o6 7 0,
 o1 8 (.len 7),
 o1 9 (.data (.bin .lss) [.t 6,.t 8])])
 (.cond (.t 9)
 .skip
 (.exit 0)))
 (.seq (.block 1 (.seq (.rg [o6 12 0,
 oc 13 5,
 oc 14 1,
 o1 15 (.index 12 (.t 13)),
 o1 16 (.idx (.t 15)),
 o4 1 [0,7,12] (.store 0 [(0,6)] 0 (.t 16) (.t 14))])
 (.seq (.rg [oc 17 1,
 o1 18 (.data (.bin .add) [.t 17,kD 1]),
 oc 1 18])
 (.seq (.rg [o6 19 0,
 oc 20 5,
 oc 21 1,
 o1 22 (.index 19 (.t 20)),
 o1 23 (.idx (.t 22)),
 o1 24 (.idx (.t 23)),
 o4 1 [0,19] (.store 0 [(0,6)] 1 (.t 24) (.t 21))])
 (.seq (.rg [oc 25 1,
 o1 26 (.data (.bin .add) [.t 25,kD 1]),
 oc 1 26])
 (.seq (.rg [o6 27 0,
 oc 28 5,
 oc 29 1,
 o1 30 (.index 27 (.t 28)),
 o1 31 (.idx (.t 30)),
 o1 32 (.idx (.t 31)),
 o4 1 [0,27] (.store 0 [(0,6)] 2 (.t 32) (.t 29))])
 (.seq (.rg [oc 33 1,
 o1 34 (.data (.bin .add) [.t 33,kD 1]),
 oc 1 34])
 (.seq (.rg [o6 35 0,
 oc 36 5,
 oc 37 1,
 o1 38 (.index 35 (.t 36)),
 o1 39 (.idx (.t 38)),
 o1 40 (.idx (.t 39)),
 o4 1 [0,35] (.store 0 [(0,6)] 3 (.t 40) (.t 37))])
 (.seq (.rg [oc 41 1,
 o1 42 (.data (.bin .add) [.t 41,kD 1]),
 oc 1 42])
 (.seq (.rg [o6 43 0,
 oc 44 5,
 oc 45 1,
 o1 46 (.index 43 (.t 44)),
 o1 47 (.idx (.t 46)),
 o1 48 (.idx (.t 47)),
 o4 1 [0,43] (.store 0 [(0,6)] 4 (.t 48) (.t 45))])
 (.seq (.rg [oc 49 1,
 o1 50 (.data (.bin .add) [.t 49,kD 1]),
 oc 1 50])
 (.seq (.rg [o6 51 0,
 oc 52 5,
 oc 53 1,
 o1 54 (.index 51 (.t 52)),
 o1 55 (.idx (.t 54)),
 o4 1 [0,51] (.store 0 [(0,6)] 5 (.t 55) (.t 53))])
 (.rg [oc 56 1,
 o1 57 (.data (.bin .add) [.t 56,kD 1]),
 oc 1 57])))))))))))))
 (.rg [oc 10 5,
 o1 11 (.data (.bin .add) [.t 10,kD 1]),
 oc 5 11])))))))
 (.seq (.rg [oc 58 1,
 oc 4 58])
 .ret)))
def s_lmarkSaidS:Sig:=⟨[.mt false Ct6,.rd false [.d]],(.one false [.d])⟩
def E_lmarkSaidS:TEnv:=envOf []
def f_lmarkSaidS (n:Nat):(List (Int × Int × Int × Int × Int × Int)) × Int->Option ((Int) × List (Int × Int × Int × Int × Int × Int)):=runFn n E_lmarkSaidS c_lmarkSaidS [Ty7,[.i .i64]] [.i .i64] Ty7 [4] (.mt 0 0 0)
def g_lmarkSaidS:=f_lmarkSaidS BIG
def p_lmarkSaidS:TSp:=⟨s_lmarkSaidS,[Ty7,[.i .i64]],[.i .i64],Ty7,Ou.j (.mt 0 0 0),g_lmarkSaidS⟩
theorem k_lmarkSaidS:chkW PG E_lmarkSaidS 12 s_lmarkSaidS (c_lmarkSaidS.ht 59) (.mt 0 0 0)=some (c_lmarkSaidS.wc E_lmarkSaidS,[4]):=by kernel_rfl
theorem ok_lmarkSaidS:p_lmarkSaidS.Ok PG 12:=mkOk (env_nil PG) k_lmarkSaidS (by kernel_rfl)
theorem e_lmarkSaidS (n) (a0) (a1):f_lmarkSaidS n (a0,a1) =
 Option.bind (loopT n (X:=(List (Int × Int × Int × Int × Int × Int)) × Int × Int) (B:=(List (Int × Int × Int × Int × Int × Int)) × Int) (fun self1 x0=>
 bif decide (x0.2.2<(x0.1.length:Int)) then
 bnd x0.1.length x0.2.2 fun n2=>
 Option.bind x0.1[n2]? fun y3=>
 bnd (x0.1.set n2 (x0.2.1,y3.2)).length x0.2.2 fun n4=>
 Option.bind (x0.1.set n2 (x0.2.1,y3.2))[n4]? fun y5=>
 bnd ((x0.1.set n2 (x0.2.1,y3.2)).set n4 (y5.1,IntKind.wrap .i64 (x0.2.1+(1:Int)),y5.2.2)).length x0.2.2 fun n6=>
 Option.bind ((x0.1.set n2 (x0.2.1,y3.2)).set n4 (y5.1,IntKind.wrap .i64 (x0.2.1+(1:Int)),y5.2.2))[n6]? fun y7=>
 bnd (((x0.1.set n2 (x0.2.1,y3.2)).set n4 (y5.1,IntKind.wrap .i64 (x0.2.1+(1:Int)),y5.2.2)).set n6 (y7.1,y7.2.1,IntKind.wrap .i64 ((IntKind.wrap .i64 (x0.2.1+(1:Int)))+(1:Int)),y7.2.2.2)).length x0.2.2 fun n8=>
 Option.bind (((x0.1.set n2 (x0.2.1,y3.2)).set n4 (y5.1,IntKind.wrap .i64 (x0.2.1+(1:Int)),y5.2.2)).set n6 (y7.1,y7.2.1,IntKind.wrap .i64 ((IntKind.wrap .i64 (x0.2.1+(1:Int)))+(1:Int)),y7.2.2.2))[n8]? fun y9=>
 bnd ((((x0.1.set n2 (x0.2.1,y3.2)).set n4 (y5.1,IntKind.wrap .i64 (x0.2.1+(1:Int)),y5.2.2)).set n6 (y7.1,y7.2.1,IntKind.wrap .i64 ((IntKind.wrap .i64 (x0.2.1+(1:Int)))+(1:Int)),y7.2.2.2)).set n8 (y9.1,y9.2.1,y9.2.2.1,IntKind.wrap .i64 ((IntKind.wrap .i64 ((IntKind.wrap .i64 (x0.2.1+(1:Int)))+(1:Int)))+(1:Int)),y9.2.2.2.2)).length x0.2.2 fun n10=>
 Option.bind ((((x0.1.set n2 (x0.2.1,y3.2)).set n4 (y5.1,IntKind.wrap .i64 (x0.2.1+(1:Int)),y5.2.2)).set n6 (y7.1,y7.2.1,IntKind.wrap .i64 ((IntKind.wrap .i64 (x0.2.1+(1:Int)))+(1:Int)),y7.2.2.2)).set n8 (y9.1,y9.2.1,y9.2.2.1,IntKind.wrap .i64 ((IntKind.wrap .i64 ((IntKind.wrap .i64 (x0.2.1+(1:Int)))+(1:Int)))+(1:Int)),y9.2.2.2.2))[n10]? fun y11=>
 bnd (((((x0.1.set n2 (x0.2.1,y3.2)).set n4 (y5.1,IntKind.wrap .i64 (x0.2.1+(1:Int)),y5.2.2)).set n6 (y7.1,y7.2.1,IntKind.wrap .i64 ((IntKind.wrap .i64 (x0.2.1+(1:Int)))+(1:Int)),y7.2.2.2)).set n8 (y9.1,y9.2.1,y9.2.2.1,IntKind.wrap .i64 ((IntKind.wrap .i64 ((IntKind.wrap .i64 (x0.2.1+(1:Int)))+(1:Int)))+(1:Int)),y9.2.2.2.2)).set n10 (y11.1,y11.2.1,y11.2.2.1,y11.2.2.2.1,IntKind.wrap .i64 ((IntKind.wrap .i64 ((IntKind.wrap .i64 ((IntKind.wrap .i64 (x0.2.1+(1:Int)))+(1:Int)))+(1:Int)))+(1:Int)),y11.2.2.2.2.2)).length x0.2.2 fun n12=>
 Option.bind (((((x0.1.set n2 (x0.2.1,y3.2)).set n4 (y5.1,IntKind.wrap .i64 (x0.2.1+(1:Int)),y5.2.2)).set n6 (y7.1,y7.2.1,IntKind.wrap .i64 ((IntKind.wrap .i64 (x0.2.1+(1:Int)))+(1:Int)),y7.2.2.2)).set n8 (y9.1,y9.2.1,y9.2.2.1,IntKind.wrap .i64 ((IntKind.wrap .i64 ((IntKind.wrap .i64 (x0.2.1+(1:Int)))+(1:Int)))+(1:Int)),y9.2.2.2.2)).set n10 (y11.1,y11.2.1,y11.2.2.1,y11.2.2.2.1,IntKind.wrap .i64 ((IntKind.wrap .i64 ((IntKind.wrap .i64 ((IntKind.wrap .i64 (x0.2.1+(1:Int)))+(1:Int)))+(1:Int)))+(1:Int)),y11.2.2.2.2.2))[n12]? fun y13=>
 self1 ((((((x0.1.set n2 (x0.2.1,y3.2)).set n4 (y5.1,IntKind.wrap .i64 (x0.2.1+(1:Int)),y5.2.2)).set n6 (y7.1,y7.2.1,IntKind.wrap .i64 ((IntKind.wrap .i64 (x0.2.1+(1:Int)))+(1:Int)),y7.2.2.2)).set n8 (y9.1,y9.2.1,y9.2.2.1,IntKind.wrap .i64 ((IntKind.wrap .i64 ((IntKind.wrap .i64 (x0.2.1+(1:Int)))+(1:Int)))+(1:Int)),y9.2.2.2.2)).set n10 (y11.1,y11.2.1,y11.2.2.1,y11.2.2.2.1,IntKind.wrap .i64 ((IntKind.wrap .i64 ((IntKind.wrap .i64 ((IntKind.wrap .i64 (x0.2.1+(1:Int)))+(1:Int)))+(1:Int)))+(1:Int)),y11.2.2.2.2.2)).set n12 (y13.1,y13.2.1,y13.2.2.1,y13.2.2.2.1,y13.2.2.2.2.1,IntKind.wrap .i64 ((IntKind.wrap .i64 ((IntKind.wrap .i64 ((IntKind.wrap .i64 ((IntKind.wrap .i64 (x0.2.1+(1:Int)))+(1:Int)))+(1:Int)))+(1:Int)))+(1:Int))),IntKind.wrap .i64 ((IntKind.wrap .i64 ((IntKind.wrap .i64 ((IntKind.wrap .i64 ((IntKind.wrap .i64 ((IntKind.wrap .i64 (x0.2.1+(1:Int)))+(1:Int)))+(1:Int)))+(1:Int)))+(1:Int)))+(1:Int)),IntKind.wrap .i64 (x0.2.2+(1:Int)))
 else some (x0.1,x0.2.1)) (a0,a1,(0:Int)):Option ((List (Int × Int × Int × Int × Int × Int)) × Int)) fun x14=>
 some (x14.2,x14.1):=by kernel_rfl
def c_lheldSaidS:TC:=
 (.seq (.rg [o1 4 (kL 0)])
 (.seq (.join [⟨1,[.i .i64],false⟩] 1180591620717411303410 (some [⟨4,[.i .i64],false⟩]) (.seq (.rg [o1 5 (kL 0)])
 (.block 0 (.loop [⟨1,[.i .i64],false⟩,⟨5,[.i .i64],false⟩] 1180591620717411303410
 (.seq (.seq (.rg [oc 6 5,
 oc 7 0,
 o1 8 (.len 7),
 o1 9 (.data (.bin .lss) [.t 6,.t 8])])
 (.cond (.t 9)
 .skip
 (.exit 0)))
 (.seq (.block 1 (.seq (.seq (.rg [oc 12 0,
 oc 13 5,
 o1 14 (.index 12 (.t 13)),
 o1 15 (.idx (.t 14)),
 o1 16 (.load 12 [(0,6)] 0 (.t 15) 1 false),
 oc 17 1,
 o1 18 (.data (.bin .neq) [.t 16,.t 17])])
 (.cond (.t 18)
 (.seq (.rg [o1 4 (kL (-1))])
 .ret)
 .skip))
 (.seq (.rg [oc 19 1,
 o1 20 (.data (.bin .add) [.t 19,kD 1]),
 oc 1 20])
 (.seq (.seq (.rg [oc 21 0,
 oc 22 5,
 o1 23 (.index 21 (.t 22)),
 o1 24 (.idx (.t 23)),
 o1 25 (.idx (.t 24)),
 o1 26 (.load 21 [(0,6)] 1 (.t 25) 1 false),
 oc 27 1,
 o1 28 (.data (.bin .neq) [.t 26,.t 27])])
 (.cond (.t 28)
 (.seq (.rg [o1 4 (kL (-1))])
 .ret)
 .skip))
 (.seq (.rg [oc 29 1,
 o1 30 (.data (.bin .add) [.t 29,kD 1]),
 oc 1 30])
 (.seq (.seq (.rg [oc 31 0,
 oc 32 5,
 o1 33 (.index 31 (.t 32)),
 o1 34 (.idx (.t 33)),
 o1 35 (.idx (.t 34)),
 o1 36 (.load 31 [(0,6)] 2 (.t 35) 1 false),
 oc 37 1,
 o1 38 (.data (.bin .neq) [.t 36,.t 37])])
 (.cond (.t 38)
 (.seq (.rg [o1 4 (kL (-1))])
 .ret)
 .skip))
 (.seq (.rg [oc 39 1,
 o1 40 (.data (.bin .add) [.t 39,kD 1]),
 oc 1 40])
 (.seq (.seq (.rg [oc 41 0,
 oc 42 5,
 o1 43 (.index 41 (.t 42)),
 o1 44 (.idx (.t 43)),
 o1 45 (.idx (.t 44)),
 o1 46 (.load 41 [(0,6)] 3 (.t 45) 1 false),
 oc 47 1,
 o1 48 (.data (.bin .neq) [.t 46,.t 47])])
 (.cond (.t 48)
 (.seq (.rg [o1 4 (kL (-1))])
 .ret)
 .skip))
 (.seq (.rg [oc 49 1,
 o1 50 (.data (.bin .add) [.t 49,kD 1]),
 oc 1 50])
 (.seq (.seq (.rg [oc 51 0,
 oc 52 5,
 o1 53 (.index 51 (.t 52)),
 o1 54 (.idx (.t 53)),
 o1 55 (.idx (.t 54)),
 o1 56 (.load 51 [(0,6)] 4 (.t 55) 1 false),
 oc 57 1,
 o1 58 (.data (.bin .neq) [.t 56,.t 57])])
 (.cond (.t 58)
 (.seq (.rg [o1 4 (kL (-1))])
 .ret)
 .skip))
 (.seq (.rg [oc 59 1,
 o1 60 (.data (.bin .add) [.t 59,kD 1]),
 oc 1 60])
 (.seq (.seq (.rg [oc 61 0,
 oc 62 5,
 o1 63 (.index 61 (.t 62)),
 o1 64 (.idx (.t 63)),
 o1 65 (.load 61 [(0,6)] 5 (.t 64) 1 false),
 oc 66 1,
 o1 67 (.data (.bin .neq) [.t 65,.t 66])])
 (.cond (.t 67)
 (.seq (.rg [o1 4 (kL (-1))])
 .ret)
 .skip))
 (.rg [oc 68 1,
 o1 69 (.data (.bin .add) [.t 68,kD 1]),
 oc 1 69])))))))))))))
 (.rg [oc 10 5,
 o1 11 (.data (.bin .add) [.t 10,kD 1]),
 oc 5 11])))))))
 (.seq (.rg [oc 70 1,
 oc 4 70])
 .ret)))
def s_lheldSaidS:Sig:=⟨[.rd false Ct6,.rd false [.d]],(.one false [.d])⟩
def E_lheldSaidS:TEnv:=envOf []
def f_lheldSaidS (n:Nat):(List (Int × Int × Int × Int × Int × Int)) × Int->Option ((Int) × Unit):=runFn n E_lheldSaidS c_lheldSaidS [Ty7,[.i .i64]] [.i .i64] [] [4] .no
def g_lheldSaidS:=f_lheldSaidS BIG
def p_lheldSaidS:TSp:=⟨s_lheldSaidS,[Ty7,[.i .i64]],[.i .i64],[],Ou.j .no,g_lheldSaidS⟩
theorem k_lheldSaidS:chkW PG E_lheldSaidS 13 s_lheldSaidS (c_lheldSaidS.ht 71) .no=some (c_lheldSaidS.wc E_lheldSaidS,[4]):=by kernel_rfl
theorem ok_lheldSaidS:p_lheldSaidS.Ok PG 13:=mkOk (env_nil PG) k_lheldSaidS (by kernel_rfl)
theorem e_lheldSaidS (n) (a0) (a1):f_lheldSaidS n (a0,a1) =
 Option.bind (loopT n (X:=Int × Int) (B:=(Int) ⊕ (Int)) (fun self1 x0=>
  bif decide (x0.2<(a0.length:Int)) then
   bnd a0.length x0.2 fun n2=>
   Option.bind a0[n2]? fun y3=>
   bif !decide (y3.1=x0.1) then
    some (Sum.inr (-1:Int))
   else bnd a0.length x0.2 fun n4=>
   Option.bind a0[n4]? fun y5=>
   bif !decide (y5.2.1=(IntKind.wrap .i64 (x0.1+(1:Int)))) then
    some (Sum.inr (-1:Int))
   else bnd a0.length x0.2 fun n6=>
   Option.bind a0[n6]? fun y7=>
   bif !decide (y7.2.2.1=(IntKind.wrap .i64 ((IntKind.wrap .i64 (x0.1+(1:Int)))+(1:Int)))) then
    some (Sum.inr (-1:Int))
   else bnd a0.length x0.2 fun n8=>
   Option.bind a0[n8]? fun y9=>
   bif !decide (y9.2.2.2.1=(IntKind.wrap .i64 ((IntKind.wrap .i64 ((IntKind.wrap .i64 (x0.1+(1:Int)))+(1:Int)))+(1:Int)))) then
    some (Sum.inr (-1:Int))
   else bnd a0.length x0.2 fun n10=>
   Option.bind a0[n10]? fun y11=>
   bif !decide (y11.2.2.2.2.1=(IntKind.wrap .i64 ((IntKind.wrap .i64 ((IntKind.wrap .i64 ((IntKind.wrap .i64 (x0.1+(1:Int)))+(1:Int)))+(1:Int)))+(1:Int)))) then
    some (Sum.inr (-1:Int))
   else bnd a0.length x0.2 fun n12=>
   Option.bind a0[n12]? fun y13=>
   bif !decide (y13.2.2.2.2.2=(IntKind.wrap .i64 ((IntKind.wrap .i64 ((IntKind.wrap .i64 ((IntKind.wrap .i64 ((IntKind.wrap .i64 (x0.1+(1:Int)))+(1:Int)))+(1:Int)))+(1:Int)))+(1:Int)))) then
    some (Sum.inr (-1:Int))
   else self1 (IntKind.wrap .i64 ((IntKind.wrap .i64 ((IntKind.wrap .i64 ((IntKind.wrap .i64 ((IntKind.wrap .i64 ((IntKind.wrap .i64 (x0.1+(1:Int)))+(1:Int)))+(1:Int)))+(1:Int)))+(1:Int)))+(1:Int)),IntKind.wrap .i64 (x0.2+(1:Int)))
  else some (Sum.inl x0.1)) (a1,(0:Int)):Option ((Int) ⊕ (Int))) fun y=>match y with
 | .inl x14=>
  some (x14,())
 | .inr x14=>
  some (x14,()):=by kernel_rfl
def c_lFnExactDecided:TC:=
 (.seq (.rg [o1 6 (.lit [.b] [.bool false])])
 (.seq (.rg [o1 7 (kL 1048576)])
 (.seq (.rg [oc 18 2,
 oc 19 7,
 o3 20 5 [.t 18,.t 19],
 oc 7 20])
 (.seq (.seq (.rg [oc 21 7,
 o1 22 (.data (.bin .lss) [.t 21,kD 0])])
 (.cond (.t 22)
 (.seq (.rg [o1 6 (.lit [.b] [.bool true])])
 .ret)
 .skip))
 (.seq (.rg [oc 24 0,
 oc 25 1,
 oc 26 2,
 o3 27 7 [.t 26],
 o3 28 6 [.t 24,.t 25,.t 27],
 o5 (.copy 28) 23 28,
 o5 (.ext 23 0 1) 29 23,
 o1 30 (.ext 23 1 1),
 o5 (.copy 29) 8 29,
 oc 9 30])
 (.seq (.rg [oc 31 2,
 o3 32 7 [.t 31],
 o5 (.copy 32) 10 32])
 (.seq (.rg [oc 34 0,
 oc 35 1,
 o6 36 10,
 o3 37 8 [.t 34,.t 35,.t 36],
 o5 (.copy 37) 33 37,
 o5 (.ext 33 0 1) 38 33,
 o1 39 (.ext 33 1 1),
 o5 (.copy 38) 11 38,
 oc 12 39])
 (.seq (.seq (.join [⟨48,[.b],false⟩] 561850441793536 none (.rg [o6 40 11,
 o6 41 8,
 o3 42 9 [.t 40,.t 41],
 o1 43 (.data .not [.t 42]),
 oc 44 43,
 o2 45 (.copy 12) 4 false,
 o2 46 (.copy 9) 4 false,
 o2 47 (.data (.beq true) [.t 45,.t 46]) 4 false,
 o7 44 (.c (.bool true)) (.t 47) 48]))
 (.cond (.t 48)
 (.seq (.rg [o1 6 (.lit [.b] [.bool false])])
 .ret)
 .skip))
 (.seq (.seq (.rg [o6 49 10,
 oc 50 2,
 o3 51 7 [.t 50],
 o3 52 10 [.t 49,.t 51],
 o1 53 (.data .not [.t 52])])
 (.cond (.t 53)
 (.seq (.rg [o1 6 (.lit [.b] [.bool false])])
 .ret)
 .skip))
 (.seq (.rg [o1 13 (kL 1)])
 (.seq (.rg [⟨false,[],[],.det 2 (.copy 10),[54,10,36,49],(some 54),none⟩,
 oc 55 13,
 ⟨false,[],[],.call 2 11 [.t 54,.t 55] (.mt 54 [] 0 54 0),[56,54],(some 56),none⟩,
 oc 13 56])
 (.seq (.seq (.join [⟨69,[.b],false⟩] 1180447505529335447552 none (.rg [oc 57 13,
 o1 58 (.data (.bin .lss) [.t 57,kD 0]),
 oc 59 58,
 ⟨true,[],[],.det 1 (.copy 11),[60],(some 60),some (2,false)⟩,
 ⟨true,[],[],.det 1 (.copy 8),[61],(some 61),some (2,false)⟩,
 ⟨false,[],[],.call 1 9 [.t 60,.t 61] .no,[62],(some 62),some (2,false)⟩,
 o2 63 (.data .not [.t 62]) 2 false,
 o7 59 (.c (.bool true)) (.t 63) 64,
 oc 65 64,
 o2 66 (.copy 12) 8 false,
 o2 67 (.copy 9) 8 false,
 o2 68 (.data (.beq true) [.t 66,.t 67]) 8 false,
 o7 65 (.c (.bool true)) (.t 68) 69]))
 (.cond (.t 69)
 (.seq (.rg [o1 6 (.lit [.b] [.bool false])])
 .ret)
 .skip))
 (.seq (.rg [o1 14 (kL 1)])
 (.seq (.rg [o6 70 11,
 oc 71 14,
 ⟨false,[],[],.call 2 12 [.t 70,.t 71] (.mt 11 [] 0 70 0),[72,11,40,70],(some 72),none⟩,
 oc 14 72])
 (.seq (.rg [o1 15 (kL 1)])
 (.seq (.rg [o6 73 11,
 oc 74 15,
 o3 75 13 [.t 73,.t 74],
 oc 15 75])
 (.seq (.seq (.rg [oc 76 15,
 o1 77 (.data (.bin .lss) [.t 76,kD 0])])
 (.cond (.t 77)
 (.seq (.rg [o1 6 (.lit [.b] [.bool false])])
 .ret)
 .skip))
 (.seq (.seq (.rg [oc 78 15,
 oc 79 14,
 o1 80 (.data (.bin .neq) [.t 78,.t 79])])
 (.cond (.t 80)
 (.seq (.rg [o1 6 (.lit [.b] [.bool false])])
 .ret)
 .skip))
 (.seq (.rg [oc 82 0,
 oc 83 1,
 oc 84 2,
 o3 85 7 [.t 84],
 o3 86 8 [.t 82,.t 83,.t 85],
 o5 (.copy 86) 81 86,
 o5 (.ext 81 0 1) 87 81,
 o1 88 (.ext 81 1 1),
 o5 (.copy 87) 16 87,
 oc 17 88])
 (.seq (.seq (.join [⟨97,[.b],false⟩] 316293680037414662435749560576 none (.rg [o5 (.copy 16) 89 16,
 ⟨false,[],[],.det 2 (.copy 8),[90,8,41],(some 90),none⟩,
 o3 91 9 [.t 89,.t 90],
 o1 92 (.data .not [.t 91]),
 oc 93 92,
 o2 94 (.copy 17) 4 false,
 o2 95 (.copy 9) 4 false,
 o2 96 (.data (.beq true) [.t 94,.t 95]) 4 false,
 o7 93 (.c (.bool true)) (.t 96) 97]))
 (.cond (.t 97)
 (.seq (.rg [o1 6 (.lit [.b] [.bool false])])
 .ret)
 .skip))
 (.seq (.rg [o1 15 (kL 1)])
 (.seq (.rg [⟨false,[],[],.det 2 (.copy 11),[98,11,73],(some 98),none⟩,
 oc 99 15,
 o3 100 13 [.t 98,.t 99],
 oc 15 100])
 (.seq (.seq (.rg [oc 101 15,
 o1 102 (.data (.bin .lss) [.t 101,kD 0])])
 (.cond (.t 102)
 (.seq (.rg [o1 6 (.lit [.b] [.bool false])])
 .ret)
 .skip))
 (.seq (.seq (.rg [oc 103 15,
 oc 104 14,
 o1 105 (.data (.bin .neq) [.t 103,.t 104])])
 (.cond (.t 105)
 (.seq (.rg [o1 6 (.lit [.b] [.bool false])])
 .ret)
 .skip))
 (.seq (.rg [o1 6 (.lit [.b] [.bool true])])
 .ret)))))))))))))))))))))))))
def s_lFnExactDecided:Sig:=⟨[.rd false [.d],.rd false [.d],.rd false Ct2],(.one false [.d])⟩
def E_lFnExactDecided:TEnv:=envOf [(5,p_lszRecS),(7,p_ltoRecS),(6,p_sDecided),(8,p_iDecided),(9,p_leqSaidS),(10,p_leqRecS),(11,p_lmarkRecS),(12,p_lmarkSaidS),(13,p_lheldSaidS)]
def f_lFnExactDecided (n:Nat):Int × Int × (List (Int × Int × Int × Int × Int × Int × Int × Bool × List (Int × Int) × List (Int) × Int × Int × List (Int × Int) × Int))->Option ((Bool) × Unit):=runFn n E_lFnExactDecided c_lFnExactDecided [[.i .i64],[.i .i64],Ty3] [.b] [] [6] .no
def g_lFnExactDecided:=f_lFnExactDecided BIG
def p_lFnExactDecided:TSp:=⟨s_lFnExactDecided,[[.i .i64],[.i .i64],Ty3],[.b],[],Ou.j .no,g_lFnExactDecided⟩
theorem k_lFnExactDecided:chkW PG E_lFnExactDecided 3 s_lFnExactDecided (c_lFnExactDecided.ht 106) .no=some (c_lFnExactDecided.wc E_lFnExactDecided,[6]):=by kernel_rfl
theorem ok_lFnExactDecided:p_lFnExactDecided.Ok PG 3:=mkOk (env_cons ok_lszRecS (env_cons ok_ltoRecS (env_cons ok_sDecided (env_cons ok_iDecided (env_cons ok_leqSaidS (env_cons ok_leqRecS (env_cons ok_lmarkRecS (env_cons ok_lmarkSaidS (env_cons ok_lheldSaidS (env_nil PG)))))))))) k_lFnExactDecided (by kernel_rfl)
theorem e_lFnExactDecided (n) (a0) (a1) (a2):f_lFnExactDecided n (a0,a1,a2) =
 Option.bind (g_lszRecS (a2,(1048576:Int))) fun r0=>
 bif decide (r0.1<(0:Int)) then
 some (true,())
 else Option.bind (g_ltoRecS a2) fun r1=>
 Option.bind (g_sDecided (a0,a1,r1.1)) fun r2=>
 Option.bind (g_ltoRecS a2) fun r3=>
 Option.bind (g_iDecided (a0,a1,r3.1)) fun r4=>
 Option.bind (Option.bind (g_leqSaidS (r4.1.1,r2.1.1)) fun r5=>
 bif !r5.1 then
 some true
 else some (!(r4.1.2 == r2.1.2)):Option (Bool)) fun x6=>
 bif x6 then
 some (false,())
 else Option.bind (g_ltoRecS a2) fun r7=>
 Option.bind (g_leqRecS (r3.1,r7.1)) fun r8=>
 bif !r8.1 then
 some (false,())
 else Option.bind (g_lmarkRecS (r3.1,(1:Int))) fun r9=>
 Option.bind (bif decide (r9.1<(0:Int)) then
 some true
 else Option.bind (g_leqSaidS (r4.1.1,r2.1.1)) fun r10=>
 bif !r10.1 then
 some true
 else some (!(r4.1.2 == r2.1.2)):Option (Bool)) fun x11=>
 bif x11 then
 some (false,())
 else Option.bind (g_lmarkSaidS (r4.1.1,(1:Int))) fun r12=>
 Option.bind (g_lheldSaidS (r12.2,(1:Int))) fun r13=>
 bif decide (r13.1<(0:Int)) then
 some (false,())
 else bif !decide (r13.1=r12.1) then
 some (false,())
 else Option.bind (g_ltoRecS a2) fun r14=>
 Option.bind (g_iDecided (a0,a1,r14.1)) fun r15=>
 Option.bind (Option.bind (g_leqSaidS (r15.1.1,r2.1.1)) fun r16=>
 bif !r16.1 then
 some true
 else some (!(r15.1.2 == r2.1.2)):Option (Bool)) fun x17=>
 bif x17 then
 some (false,())
 else Option.bind (g_lheldSaidS (r12.2,(1:Int))) fun r18=>
 bif decide (r18.1<(0:Int)) then
 some (false,())
 else bif !decide (r18.1=r12.1) then
 some (false,())
 else some (true,()):=by kernel_rfl
def c_lheldEdgeS:TC:=
 (.seq (.rg [o1 4 (kL 0)])
 (.seq (.join [⟨1,[.i .i64],false⟩] 1073741810 (some [⟨4,[.i .i64],false⟩]) (.seq (.rg [o1 5 (kL 0)])
 (.block 0 (.loop [⟨1,[.i .i64],false⟩,⟨5,[.i .i64],false⟩] 1073741810
 (.seq (.seq (.rg [oc 6 5,
 oc 7 0,
 o1 8 (.len 7),
 o1 9 (.data (.bin .lss) [.t 6,.t 8])])
 (.cond (.t 9)
 .skip
 (.exit 0)))
 (.seq (.block 1 (.seq (.seq (.rg [oc 12 0,
 oc 13 5,
 o1 14 (.index 12 (.t 13)),
 o1 15 (.idx (.t 14)),
 o1 16 (.load 12 [(0,2)] 0 (.t 15) 1 false),
 oc 17 1,
 o1 18 (.data (.bin .neq) [.t 16,.t 17])])
 (.cond (.t 18)
 (.seq (.rg [o1 4 (kL (-1))])
 .ret)
 .skip))
 (.seq (.rg [oc 19 1,
 o1 20 (.data (.bin .add) [.t 19,kD 1]),
 oc 1 20])
 (.seq (.seq (.rg [oc 21 0,
 oc 22 5,
 o1 23 (.index 21 (.t 22)),
 o1 24 (.idx (.t 23)),
 o1 25 (.load 21 [(0,2)] 1 (.t 24) 1 false),
 oc 26 1,
 o1 27 (.data (.bin .neq) [.t 25,.t 26])])
 (.cond (.t 27)
 (.seq (.rg [o1 4 (kL (-1))])
 .ret)
 .skip))
 (.rg [oc 28 1,
 o1 29 (.data (.bin .add) [.t 28,kD 1]),
 oc 1 29])))))
 (.rg [oc 10 5,
 o1 11 (.data (.bin .add) [.t 10,kD 1]),
 oc 5 11])))))))
 (.seq (.rg [oc 30 1,
 oc 4 30])
 .ret)))
def s_lheldEdgeS:Sig:=⟨[.rd false Ct8,.rd false [.d]],(.one false [.d])⟩
def E_lheldEdgeS:TEnv:=envOf []
def f_lheldEdgeS (n:Nat):(List (Int × Int)) × Int->Option ((Int) × Unit):=runFn n E_lheldEdgeS c_lheldEdgeS [[.sl [.i .i64,.i .i64]],[.i .i64]] [.i .i64] [] [4] .no
def g_lheldEdgeS:=f_lheldEdgeS BIG
def p_lheldEdgeS:TSp:=⟨s_lheldEdgeS,[[.sl [.i .i64,.i .i64]],[.i .i64]],[.i .i64],[],Ou.j .no,g_lheldEdgeS⟩
theorem k_lheldEdgeS:chkW PG E_lheldEdgeS 39 s_lheldEdgeS (c_lheldEdgeS.ht 31) .no=some (c_lheldEdgeS.wc E_lheldEdgeS,[4]):=by kernel_rfl
theorem ok_lheldEdgeS:p_lheldEdgeS.Ok PG 39:=mkOk (env_nil PG) k_lheldEdgeS (by kernel_rfl)
theorem e_lheldEdgeS (n) (a0) (a1):f_lheldEdgeS n (a0,a1) =
 Option.bind (loopT n (X:=Int × Int) (B:=(Int) ⊕ (Int)) (fun self1 x0=>
  bif decide (x0.2<(a0.length:Int)) then
   bnd a0.length x0.2 fun n2=>
   Option.bind a0[n2]? fun y3=>
   bif !decide (y3.1=x0.1) then
    some (Sum.inr (-1:Int))
   else bnd a0.length x0.2 fun n4=>
   Option.bind a0[n4]? fun y5=>
   bif !decide (y5.2=(IntKind.wrap .i64 (x0.1+(1:Int)))) then
    some (Sum.inr (-1:Int))
   else self1 (IntKind.wrap .i64 ((IntKind.wrap .i64 (x0.1+(1:Int)))+(1:Int)),IntKind.wrap .i64 (x0.2+(1:Int)))
  else some (Sum.inl x0.1)) (a1,(0:Int)):Option ((Int) ⊕ (Int))) fun y=>match y with
 | .inl x6=>
  some (x6,())
 | .inr x6=>
  some (x6,()):=by kernel_rfl
def c_lheldIntS:TC:=
 (.seq (.rg [o1 4 (kL 0)])
 (.seq (.join [⟨1,[.i .i64],false⟩] 1048562 (some [⟨4,[.i .i64],false⟩]) (.seq (.rg [o1 5 (kL 0)])
 (.block 0 (.loop [⟨1,[.i .i64],false⟩,⟨5,[.i .i64],false⟩] 1048562
 (.seq (.seq (.rg [oc 6 5,
 oc 7 0,
 o1 8 (.len 7),
 o1 9 (.data (.bin .lss) [.t 6,.t 8])])
 (.cond (.t 9)
 .skip
 (.exit 0)))
 (.seq (.block 1 (.seq (.seq (.rg [oc 12 0,
 oc 13 5,
 o1 14 (.index 12 (.t 13)),
 o1 15 (.load 12 [(0,1)] 0 (.t 14) 1 false),
 oc 16 1,
 o1 17 (.data (.bin .neq) [.t 15,.t 16])])
 (.cond (.t 17)
 (.seq (.rg [o1 4 (kL (-1))])
 .ret)
 .skip))
 (.rg [oc 18 1,
 o1 19 (.data (.bin .add) [.t 18,kD 1]),
 oc 1 19])))
 (.rg [oc 10 5,
 o1 11 (.data (.bin .add) [.t 10,kD 1]),
 oc 5 11])))))))
 (.seq (.rg [oc 20 1,
 oc 4 20])
 .ret)))
def s_lheldIntS:Sig:=⟨[.rd false Ct9,.rd false [.d]],(.one false [.d])⟩
def E_lheldIntS:TEnv:=envOf []
def f_lheldIntS (n:Nat):List (Int) × Int->Option ((Int) × Unit):=runFn n E_lheldIntS c_lheldIntS [[.sl [.i .i64]],[.i .i64]] [.i .i64] [] [4] .no
def g_lheldIntS:=f_lheldIntS BIG
def p_lheldIntS:TSp:=⟨s_lheldIntS,[[.sl [.i .i64]],[.i .i64]],[.i .i64],[],Ou.j .no,g_lheldIntS⟩
theorem k_lheldIntS:chkW PG E_lheldIntS 38 s_lheldIntS (c_lheldIntS.ht 21) .no=some (c_lheldIntS.wc E_lheldIntS,[4]):=by kernel_rfl
theorem ok_lheldIntS:p_lheldIntS.Ok PG 38:=mkOk (env_nil PG) k_lheldIntS (by kernel_rfl)
theorem e_lheldIntS (n) (a0) (a1):f_lheldIntS n (a0,a1) =
 Option.bind (loopT n (X:=Int × Int) (B:=(Int) ⊕ (Int)) (fun self1 x0=>
  bif decide (x0.2<(a0.length:Int)) then
   bnd a0.length x0.2 fun n2=>
   Option.bind a0[n2]? fun y3=>
   bif !decide (y3=x0.1) then
    some (Sum.inr (-1:Int))
   else self1 (IntKind.wrap .i64 (x0.1+(1:Int)),IntKind.wrap .i64 (x0.2+(1:Int)))
  else some (Sum.inl x0.1)) (a1,(0:Int)):Option ((Int) ⊕ (Int))) fun y=>match y with
 | .inl x4=>
  some (x4,())
 | .inr x4=>
  some (x4,()):=by kernel_rfl
end
end Go.Fw
