/- The given functions, as what they compute; each is shown to be what the code does. No conditions. -/
import Derived.Test.YtnjbmfecjooibaaGreatX1
set_option linter.unusedVariables false
set_option linter.unusedSimpArgs false
set_option linter.unusedSectionVars false
namespace Go.Fw
noncomputable section
def c_leqRec:TC:=
 (.seq (.rg [o1 2 (.a (.t 0)),
 o1 3 (.a (.t 1)),
 o1 4 (.lit [.b] [.bool false])])
 (.seq (.seq (.rg [oi 5,
 o1 6 (.load 2 [] 0 (.t 5) 1 false),
 oi 7,
 o1 8 (.load 3 [] 0 (.t 7) 1 false),
 o1 9 (.data (.bin .neq) [.t 6,.t 8])])
 (.cond (.t 9)
 (.seq (.rg [o1 4 (.lit [.b] [.bool false])])
 .ret)
 .skip))
 (.seq (.seq (.rg [oi 10,
 o1 11 (.load 2 [] 1 (.t 10) 4 false),
 oi 12,
 o1 13 (.load 3 [] 1 (.t 12) 4 false),
 o3 14 101 [.t 11,.t 13],
 o1 15 (.data .not [.t 14])])
 (.cond (.t 15)
 (.seq (.rg [o1 4 (.lit [.b] [.bool false])])
 .ret)
 .skip))
 (.seq (.seq (.rg [oi 16,
 o1 17 (.load 2 [] 5 (.t 16) 1 false),
 oi 18,
 o1 19 (.load 3 [] 5 (.t 18) 1 false),
 o1 20 (.data (.bin .neq) [.t 17,.t 19])])
 (.cond (.t 20)
 (.seq (.rg [o1 4 (.lit [.b] [.bool false])])
 .ret)
 .skip))
 (.seq (.seq (.rg [oi 21,
 o1 22 (.load 2 [] 6 (.t 21) 4 false),
 oi 23,
 o1 24 (.load 3 [] 6 (.t 23) 4 false),
 o3 25 12 [.t 22,.t 24],
 o1 26 (.data .not [.t 25])])
 (.cond (.t 26)
 (.seq (.rg [o1 4 (.lit [.b] [.bool false])])
 .ret)
 .skip))
 (.seq (.seq (.rg [oi 27,
 o1 28 (.load 2 [] 10 (.t 27) 4 false),
 oi 29,
 o1 30 (.load 3 [] 10 (.t 29) 4 false),
 o3 31 13 [.t 28,.t 30],
 o1 32 (.data .not [.t 31])])
 (.cond (.t 32)
 (.seq (.rg [o1 4 (.lit [.b] [.bool false])])
 .ret)
 .skip))
 (.seq (.rg [o1 4 (.lit [.b] [.bool true])])
 .ret)))))))
def s_leqRec:Sig:=⟨[.rd true Ct1,.rd true Ct1],(.one false [.d])⟩
def E_leqRec:TEnv:=envOf [(101,p_leqAsk),(12,p_leqAnswer),(13,p_leqOrder)]
def f_leqRec (n:Nat):(Int × Int × Int × Int × Int × Int × Int × Bool × List (Int × Int) × List (Int) × Int × Int × List (Int × Int) × Int) × (Int × Int × Int × Int × Int × Int × Int × Bool × List (Int × Int) × List (Int) × Int × Int × List (Int × Int) × Int)->Option ((Bool) × Unit):=runFn n E_leqRec c_leqRec [Ty2,Ty2] [.b] [] [4] .no
def g_leqRec:=f_leqRec BIG
def p_leqRec:TSp:=⟨s_leqRec,[Ty2,Ty2],[.b],[],Ou.j .no,g_leqRec⟩
theorem k_leqRec:chkW PG E_leqRec 60 s_leqRec (c_leqRec.ht 33) .no=some (c_leqRec.wc E_leqRec,[4]):=by kernel_rfl
theorem ok_leqRec:p_leqRec.Ok PG 60:=mkOk (env_cons ok_leqAsk (env_cons ok_leqAnswer (env_cons ok_leqOrder (env_nil PG)))) k_leqRec (by kernel_rfl)
theorem e_leqRec (n) (a0) (a1):f_leqRec n (a0,a1) =
 bif !decide (a0.1=a1.1) then
 some (false,())
 else Option.bind (g_leqAsk ((a0.2.1,a0.2.2.1,a0.2.2.2.1,a0.2.2.2.2.1),(a1.2.1,a1.2.2.1,a1.2.2.2.1,a1.2.2.2.2.1))) fun r0=>
 bif !r0.1 then
 some (false,())
 else bif !decide (a0.2.2.2.2.2.1=a1.2.2.2.2.2.1) then
 some (false,())
 else Option.bind (g_leqAnswer ((a0.2.2.2.2.2.2.1,a0.2.2.2.2.2.2.2.1,a0.2.2.2.2.2.2.2.2.1,a0.2.2.2.2.2.2.2.2.2.1),(a1.2.2.2.2.2.2.1,a1.2.2.2.2.2.2.2.1,a1.2.2.2.2.2.2.2.2.1,a1.2.2.2.2.2.2.2.2.2.1))) fun r1=>
 bif !r1.1 then
 some (false,())
 else Option.bind (g_leqOrder (a0.2.2.2.2.2.2.2.2.2.2,a1.2.2.2.2.2.2.2.2.2.2)) fun r2=>
 bif !r2.1 then
 some (false,())
 else some (true,()):=by kernel_rfl
def c_leqRecS:TC:=
 (.seq (.rg [o1 4 (.lit [.b] [.bool false])])
 (.seq (.seq (.rg [oc 6 0,
 o1 7 (.len 6),
 oc 8 1,
 o1 9 (.len 8),
 o1 10 (.data (.bin .neq) [.t 7,.t 9])])
 (.cond (.t 10)
 (.seq (.rg [o1 4 (.lit [.b] [.bool false])])
 .ret)
 .skip))
 (.seq (.join [] 134215728 (some [⟨4,[.b],false⟩]) (.seq (.rg [o1 5 (kL 0)])
 (.block 0 (.loop [⟨5,[.i .i64],false⟩] 134215728
 (.seq (.seq (.rg [oc 11 5,
 oc 12 0,
 o1 13 (.len 12),
 o1 14 (.data (.bin .lss) [.t 11,.t 13])])
 (.cond (.t 14)
 .skip
 (.exit 0)))
 (.seq (.block 1 (.seq (.rg [oc 17 0,
 oc 18 5,
 oc 21 1,
 oc 22 5,
 o1 19 (.index 17 (.t 18)),
 o1 20 (.load 17 [(0,14)] 0 (.t 19) 14 false),
 o1 23 (.index 21 (.t 22)),
 o1 24 (.load 21 [(0,14)] 0 (.t 23) 14 false),
 o3 25 60 [.t 20,.t 24],
 o1 26 (.data .not [.t 25])])
 (.cond (.t 26)
 (.seq (.rg [o1 4 (.lit [.b] [.bool false])])
 .ret)
 .skip)))
 (.rg [oc 15 5,
 o1 16 (.data (.bin .add) [.t 15,kD 1]),
 oc 5 16])))))))
 (.seq (.rg [o1 4 (.lit [.b] [.bool true])])
 .ret))))
def s_leqRecS:Sig:=⟨[.rd false Ct0,.rd false Ct0],(.one false [.d])⟩
def E_leqRecS:TEnv:=envOf [(60,p_leqRec)]
def f_leqRecS (n:Nat):(List (Int × Int × Int × Int × Int × Int × Int × Bool × List (Int × Int) × List (Int) × Int × Int × List (Int × Int) × Int)) × (List (Int × Int × Int × Int × Int × Int × Int × Bool × List (Int × Int) × List (Int) × Int × Int × List (Int × Int) × Int))->Option ((Bool) × Unit):=runFn n E_leqRecS c_leqRecS [Ty1,Ty1] [.b] [] [4] .no
def g_leqRecS:=f_leqRecS BIG
def p_leqRecS:TSp:=⟨s_leqRecS,[Ty1,Ty1],[.b],[],Ou.j .no,g_leqRecS⟩
theorem k_leqRecS:chkW PG E_leqRecS 23 s_leqRecS (c_leqRecS.ht 27) .no=some (c_leqRecS.wc E_leqRecS,[4]):=by kernel_rfl
theorem ok_leqRecS:p_leqRecS.Ok PG 23:=mkOk (env_cons ok_leqRec (env_nil PG)) k_leqRecS (by kernel_rfl)
theorem e_leqRecS (n) (a0) (a1):f_leqRecS n (a0,a1) =
 bif !decide ((a0.length:Int)=(a1.length:Int)) then
  some (false,())
 else Option.bind (loopT n (X:=Int) (B:=(Unit) ⊕ (Bool)) (fun self1 x0=>
  bif decide (x0<(a0.length:Int)) then
   bnd a0.length x0 fun n2=>
   Option.bind a0[n2]? fun y3=>
   bnd a1.length x0 fun n4=>
   Option.bind a1[n4]? fun y5=>
   Option.bind (g_leqRec (y3,y5)) fun r6=>
   bif !r6.1 then
    some (Sum.inr false)
   else self1 (IntKind.wrap .i64 (x0+(1:Int)))
  else some (Sum.inl ())) (0:Int):Option ((Unit) ⊕ (Bool))) fun y=>match y with
 | .inl x7=>
  some (true,())
 | .inr x7=>
  some (x7,()):=by kernel_rfl
def c_lmarkEdgeS:TC:=
 (.seq (.rg [o1 4 (kL 0)])
 (.seq (.join [⟨0,[.sl [.i .i64,.i .i64]],false⟩,⟨1,[.i .i64],false⟩] 67108835 none (.seq (.rg [o1 5 (kL 0)])
 (.block 0 (.loop [⟨0,[.sl [.i .i64,.i .i64]],false⟩,⟨1,[.i .i64],false⟩,⟨5,[.i .i64],false⟩] 67108835
 (.seq (.seq (.rg [oc 6 5,
 o6 7 0,
 o1 8 (.len 7),
 o1 9 (.data (.bin .lss) [.t 6,.t 8])])
 (.cond (.t 9)
 .skip
 (.exit 0)))
 (.seq (.block 1 (.seq (.rg [o6 12 0,
 oc 13 5,
 oc 14 1,
 o1 15 (.index 12 (.t 13)),
 o1 16 (.idx (.t 15)),
 o4 1 [0,7,12] (.store 0 [(0,2)] 0 (.t 16) (.t 14))])
 (.seq (.rg [oc 17 1,
 o1 18 (.data (.bin .add) [.t 17,kD 1]),
 oc 1 18])
 (.seq (.rg [o6 19 0,
 oc 20 5,
 oc 21 1,
 o1 22 (.index 19 (.t 20)),
 o1 23 (.idx (.t 22)),
 o4 1 [0,19] (.store 0 [(0,2)] 1 (.t 23) (.t 21))])
 (.rg [oc 24 1,
 o1 25 (.data (.bin .add) [.t 24,kD 1]),
 oc 1 25])))))
 (.rg [oc 10 5,
 o1 11 (.data (.bin .add) [.t 10,kD 1]),
 oc 5 11])))))))
 (.seq (.rg [oc 26 1,
 oc 4 26])
 .ret)))
def s_lmarkEdgeS:Sig:=⟨[.mt false Ct10,.rd false [.d]],(.one false [.d])⟩
def E_lmarkEdgeS:TEnv:=envOf []
def f_lmarkEdgeS (n:Nat):(List (Int × Int)) × Int->Option ((Int) × List (Int × Int)):=runFn n E_lmarkEdgeS c_lmarkEdgeS [[.sl [.i .i64,.i .i64]],[.i .i64]] [.i .i64] [.sl [.i .i64,.i .i64]] [4] (.mt 0 0 0)
def g_lmarkEdgeS:=f_lmarkEdgeS BIG
def p_lmarkEdgeS:TSp:=⟨s_lmarkEdgeS,[[.sl [.i .i64,.i .i64]],[.i .i64]],[.i .i64],[.sl [.i .i64,.i .i64]],Ou.j (.mt 0 0 0),g_lmarkEdgeS⟩
theorem k_lmarkEdgeS:chkW PG E_lmarkEdgeS 51 s_lmarkEdgeS (c_lmarkEdgeS.ht 27) (.mt 0 0 0)=some (c_lmarkEdgeS.wc E_lmarkEdgeS,[4]):=by kernel_rfl
theorem ok_lmarkEdgeS:p_lmarkEdgeS.Ok PG 51:=mkOk (env_nil PG) k_lmarkEdgeS (by kernel_rfl)
theorem e_lmarkEdgeS (n) (a0) (a1):f_lmarkEdgeS n (a0,a1) =
 Option.bind (loopT n (X:=(List (Int × Int)) × Int × Int) (B:=(List (Int × Int)) × Int) (fun self1 x0=>
 bif decide (x0.2.2<(x0.1.length:Int)) then
 bnd x0.1.length x0.2.2 fun n2=>
 Option.bind x0.1[n2]? fun y3=>
 bnd (x0.1.set n2 (x0.2.1,y3.2)).length x0.2.2 fun n4=>
 Option.bind (x0.1.set n2 (x0.2.1,y3.2))[n4]? fun y5=>
 self1 ((x0.1.set n2 (x0.2.1,y3.2)).set n4 (y5.1,IntKind.wrap .i64 (x0.2.1+(1:Int))),IntKind.wrap .i64 ((IntKind.wrap .i64 (x0.2.1+(1:Int)))+(1:Int)),IntKind.wrap .i64 (x0.2.2+(1:Int)))
 else some (x0.1,x0.2.1)) (a0,a1,(0:Int)):Option ((List (Int × Int)) × Int)) fun x6=>
 some (x6.2,x6.1):=by kernel_rfl
def c_lmarkIntS:TC:=
 (.seq (.rg [o1 4 (kL 0)])
 (.seq (.join [⟨0,[.sl [.i .i64]],false⟩,⟨1,[.i .i64],false⟩] 262115 none (.seq (.rg [o1 5 (kL 0)])
 (.block 0 (.loop [⟨0,[.sl [.i .i64]],false⟩,⟨1,[.i .i64],false⟩,⟨5,[.i .i64],false⟩] 262115
 (.seq (.seq (.rg [oc 6 5,
 o6 7 0,
 o1 8 (.len 7),
 o1 9 (.data (.bin .lss) [.t 6,.t 8])])
 (.cond (.t 9)
 .skip
 (.exit 0)))
 (.seq (.block 1 (.seq (.rg [o6 12 0,
 oc 13 5,
 oc 14 1,
 o1 15 (.index 12 (.t 13)),
 o4 1 [0,7,12] (.store 0 [(0,1)] 0 (.t 15) (.t 14))])
 (.rg [oc 16 1,
 o1 17 (.data (.bin .add) [.t 16,kD 1]),
 oc 1 17])))
 (.rg [oc 10 5,
 o1 11 (.data (.bin .add) [.t 10,kD 1]),
 oc 5 11])))))))
 (.seq (.rg [oc 18 1,
 oc 4 18])
 .ret)))
def s_lmarkIntS:Sig:=⟨[.mt false Ct11,.rd false [.d]],(.one false [.d])⟩
def E_lmarkIntS:TEnv:=envOf []
def f_lmarkIntS (n:Nat):List (Int) × Int->Option ((Int) × List (Int)):=runFn n E_lmarkIntS c_lmarkIntS [[.sl [.i .i64]],[.i .i64]] [.i .i64] [.sl [.i .i64]] [4] (.mt 0 0 0)
def g_lmarkIntS:=f_lmarkIntS BIG
def p_lmarkIntS:TSp:=⟨s_lmarkIntS,[[.sl [.i .i64]],[.i .i64]],[.i .i64],[.sl [.i .i64]],Ou.j (.mt 0 0 0),g_lmarkIntS⟩
theorem k_lmarkIntS:chkW PG E_lmarkIntS 52 s_lmarkIntS (c_lmarkIntS.ht 19) (.mt 0 0 0)=some (c_lmarkIntS.wc E_lmarkIntS,[4]):=by kernel_rfl
theorem ok_lmarkIntS:p_lmarkIntS.Ok PG 52:=mkOk (env_nil PG) k_lmarkIntS (by kernel_rfl)
theorem e_lmarkIntS (n) (a0) (a1):f_lmarkIntS n (a0,a1) =
 Option.bind (loopT n (X:=(List (Int)) × Int × Int) (B:=(List (Int)) × Int) (fun self1 x0=>
 bif decide (x0.2.2<(x0.1.length:Int)) then
 bnd x0.1.length x0.2.2 fun n2=>
 Option.bind x0.1[n2]? fun y3=>
 self1 (x0.1.set n2 x0.2.1,IntKind.wrap .i64 (x0.2.1+(1:Int)),IntKind.wrap .i64 (x0.2.2+(1:Int)))
 else some (x0.1,x0.2.1)) (a0,a1,(0:Int)):Option ((List (Int)) × Int)) fun x4=>
 some (x4.2,x4.1):=by kernel_rfl
def c_lmarkRecS:TC:=
 (.seq (.rg [o1 4 (kL 0)])
 (.seq (.join [⟨0,Ty1,false⟩,⟨1,[.i .i64],false⟩] 21267647932558653966460912964485513187 none (.seq (.rg [o1 5 (kL 0)])
 (.block 0 (.loop [⟨0,Ty1,false⟩,⟨1,[.i .i64],false⟩,⟨5,[.i .i64],false⟩] 21267647932558653966460912964485513187
 (.seq (.seq (.rg [oc 6 5,
 o6 7 0,
 o1 8 (.len 7),
 o1 9 (.data (.bin .lss) [.t 6,.t 8])])
 (.cond (.t 9)
 .skip
 (.exit 0)))
 (.seq (.block 1 (.seq (.rg [o6 12 0,
 oc 13 5,
 oc 14 1,
 o1 15 (.index 12 (.t 13)),
 o1 16 (.idx (.t 15)),
 o4 1 [0,7,12] (.store 0 [(0,14)] 0 (.t 16) (.t 14))])
 (.seq (.rg [oc 17 1,
 o1 18 (.data (.bin .add) [.t 17,kD 1]),
 oc 1 18])
 (.seq (.rg [o6 19 0,
 oc 20 5,
 oc 21 1,
 o1 22 (.index 19 (.t 20)),
 o1 23 (.idx (.t 22)),
 o1 24 (.idx (.t 23)),
 o4 1 [0,19] (.store 0 [(0,14)] 1 (.t 24) (.t 21))])
 (.seq (.rg [oc 25 1,
 o1 26 (.data (.bin .add) [.t 25,kD 1]),
 oc 1 26])
 (.seq (.rg [o6 27 0,
 oc 28 5,
 oc 29 1,
 o1 30 (.index 27 (.t 28)),
 o1 31 (.idx (.t 30)),
 o1 32 (.idx (.t 31)),
 o4 1 [0,27] (.store 0 [(0,14)] 2 (.t 32) (.t 29))])
 (.seq (.rg [oc 33 1,
 o1 34 (.data (.bin .add) [.t 33,kD 1]),
 oc 1 34])
 (.seq (.rg [o6 35 0,
 oc 36 5,
 oc 37 1,
 o1 38 (.index 35 (.t 36)),
 o1 39 (.idx (.t 38)),
 o1 40 (.idx (.t 39)),
 o4 1 [0,35] (.store 0 [(0,14)] 3 (.t 40) (.t 37))])
 (.seq (.rg [oc 41 1,
 o1 42 (.data (.bin .add) [.t 41,kD 1]),
 oc 1 42])
 (.seq (.rg [o6 43 0,
 oc 44 5,
 oc 45 1,
 o1 46 (.index 43 (.t 44)),
 o1 47 (.idx (.t 46)),
 o1 48 (.idx (.t 47)),
 o4 1 [0,43] (.store 0 [(0,14)] 4 (.t 48) (.t 45))])
 (.seq (.rg [oc 49 1,
 o1 50 (.data (.bin .add) [.t 49,kD 1]),
 oc 1 50])
 (.seq (.rg [o6 51 0,
 oc 52 5,
 oc 53 1,
 o1 54 (.index 51 (.t 52)),
 o1 55 (.idx (.t 54)),
 o4 1 [0,51] (.store 0 [(0,14)] 5 (.t 55) (.t 53))])
 (.seq (.rg [oc 56 1,
 o1 57 (.data (.bin .add) [.t 56,kD 1]),
 oc 1 57])
 (.seq (.rg [o6 58 0,
 oc 59 5,
 oc 60 1,
 o1 61 (.index 58 (.t 59)),
 o1 62 (.idx (.t 61)),
 o1 63 (.idx (.t 62)),
 o4 1 [0,58] (.store 0 [(0,14)] 6 (.t 63) (.t 60))])
 (.seq (.rg [oc 64 1,
 o1 65 (.data (.bin .add) [.t 64,kD 1]),
 oc 1 65])
 (.seq (.rg [o6 66 0,
 oc 67 5,
 oc 68 1,
 o1 69 (.data (.bin .rem) [.t 68,kD 3]),
 o1 70 (.data (.bin .eql) [.t 69,kD 0]),
 o1 71 (.index 66 (.t 67)),
 o1 72 (.idx (.t 71)),
 o1 73 (.idx (.t 72)),
 o4 1 [0,66] (.store 0 [(0,14)] 7 (.t 73) (.t 70))])
 (.seq (.rg [oc 74 1,
 o1 75 (.data (.bin .add) [.t 74,kD 1]),
 oc 1 75])
 (.seq (.rg [o6 76 0,
 oc 77 5,
 o1 78 (.index 76 (.t 77)),
 o1 79 (.idx (.t 78)),
 o1 80 (.idx (.t 79)),
 o1 81 (.load 0 [(0,14)] 8 (.t 80) 1 true),
 oc 82 1,
 ⟨false,[],[],.call 2 51 [.t 81,.t 82] (.mt 0 [(0,14)] 8 81 0),[83,0,15,16,22,23,24,30,31,32,38,39,40,46,47,48,54,55,61,62,63,71,72,73,81,80,79,78,76],(some 83),none⟩,
 oc 1 83])
 (.seq (.rg [o6 84 0,
 oc 85 5,
 o1 86 (.index 84 (.t 85)),
 o1 87 (.idx (.t 86)),
 o1 88 (.idx (.t 87)),
 o1 89 (.load 0 [(0,14)] 9 (.t 88) 1 true),
 oc 90 1,
 ⟨false,[],[],.call 2 52 [.t 89,.t 90] (.mt 0 [(0,14)] 9 89 0),[91,0,89,88,87,86,84],(some 91),none⟩,
 oc 1 91])
 (.seq (.rg [o6 92 0,
 oc 93 5,
 oc 94 1,
 o1 95 (.index 92 (.t 93)),
 o1 96 (.idx (.t 95)),
 o1 97 (.idx (.t 96)),
 o4 1 [0,92] (.store 0 [(0,14)] 10 (.t 97) (.t 94))])
 (.seq (.rg [oc 98 1,
 o1 99 (.data (.bin .add) [.t 98,kD 1]),
 oc 1 99])
 (.seq (.rg [o6 100 0,
 oc 101 5,
 oc 102 1,
 o1 103 (.index 100 (.t 101)),
 o1 104 (.idx (.t 103)),
 o1 105 (.idx (.t 104)),
 o4 1 [0,100] (.store 0 [(0,14)] 11 (.t 105) (.t 102))])
 (.seq (.rg [oc 106 1,
 o1 107 (.data (.bin .add) [.t 106,kD 1]),
 oc 1 107])
 (.seq (.rg [o6 108 0,
 oc 109 5,
 o1 110 (.index 108 (.t 109)),
 o1 111 (.idx (.t 110)),
 o1 112 (.idx (.t 111)),
 o1 113 (.load 0 [(0,14)] 12 (.t 112) 1 true),
 oc 114 1,
 ⟨false,[],[],.call 2 51 [.t 113,.t 114] (.mt 0 [(0,14)] 12 113 0),[115,0,95,96,97,103,104,105,113,112,111,110,108],(some 115),none⟩,
 oc 1 115])
 (.seq (.rg [o6 116 0,
 oc 117 5,
 oc 118 1,
 o1 119 (.index 116 (.t 117)),
 o1 120 (.idx (.t 119)),
 o1 121 (.idx (.t 120)),
 o4 1 [0,116] (.store 0 [(0,14)] 13 (.t 121) (.t 118))])
 (.rg [oc 122 1,
 o1 123 (.data (.bin .add) [.t 122,kD 1]),
 oc 1 123]))))))))))))))))))))))))))
 (.rg [oc 10 5,
 o1 11 (.data (.bin .add) [.t 10,kD 1]),
 oc 5 11])))))))
 (.seq (.rg [oc 124 1,
 oc 4 124])
 .ret)))
def s_lmarkRecS:Sig:=⟨[.mt false Ct0,.rd false [.d]],(.one false [.d])⟩
def E_lmarkRecS:TEnv:=envOf [(51,p_lmarkEdgeS),(52,p_lmarkIntS)]
def f_lmarkRecS (n:Nat):(List (Int × Int × Int × Int × Int × Int × Int × Bool × List (Int × Int) × List (Int) × Int × Int × List (Int × Int) × Int)) × Int->Option ((Int) × List (Int × Int × Int × Int × Int × Int × Int × Bool × List (Int × Int) × List (Int) × Int × Int × List (Int × Int) × Int)):=runFn n E_lmarkRecS c_lmarkRecS [Ty1,[.i .i64]] [.i .i64] Ty1 [4] (.mt 0 0 0)
def g_lmarkRecS:=f_lmarkRecS BIG
def p_lmarkRecS:TSp:=⟨s_lmarkRecS,[Ty1,[.i .i64]],[.i .i64],Ty1,Ou.j (.mt 0 0 0),g_lmarkRecS⟩
theorem k_lmarkRecS:chkW PG E_lmarkRecS 24 s_lmarkRecS (c_lmarkRecS.ht 125) (.mt 0 0 0)=some (c_lmarkRecS.wc E_lmarkRecS,[4]):=by kernel_rfl
theorem ok_lmarkRecS:p_lmarkRecS.Ok PG 24:=mkOk (env_cons ok_lmarkEdgeS (env_cons ok_lmarkIntS (env_nil PG))) k_lmarkRecS (by kernel_rfl)
theorem e_lmarkRecS (n) (a0) (a1):f_lmarkRecS n (a0,a1) =
 Option.bind (loopT n (X:=(List (Int × Int × Int × Int × Int × Int × Int × Bool × (List (Int × Int)) × (List (Int)) × Int × Int × (List (Int × Int)) × Int)) × Int × Int) (B:=(List (Int × Int × Int × Int × Int × Int × Int × Bool × (List (Int × Int)) × (List (Int)) × Int × Int × (List (Int × Int)) × Int)) × Int) (fun self1 x0=>
 bif decide (x0.2.2<(x0.1.length:Int)) then
 bnd x0.1.length x0.2.2 fun n2=>
 Option.bind x0.1[n2]? fun y3=>
 bnd (x0.1.set n2 (x0.2.1,y3.2)).length x0.2.2 fun n4=>
 Option.bind (x0.1.set n2 (x0.2.1,y3.2))[n4]? fun y5=>
 bnd ((x0.1.set n2 (x0.2.1,y3.2)).set n4 (y5.1,IntKind.wrap .i64 (x0.2.1+(1:Int)),y5.2.2)).length x0.2.2 fun n6=>
 Option.bind ((x0.1.set n2 (x0.2.1,y3.2)).set n4 (y5.1,IntKind.wrap .i64 (x0.2.1+(1:Int)),y5.2.2))[n6]? fun y7=>
 bnd (((x0.1.set n2 (x0.2.1,y3.2)).set n4 (y5.1,IntKind.wrap .i64 (x0.2.1+(1:Int)),y5.2.2)).set n6 (y7.1,y7.2.1,IntKind.wrap .i64 ((IntKind.wrap .i64 (x0.2.1+(1:Int)))+(1:Int)),y7.2.2.2)).length x0.2.2 fun n8=>
 Option.bind (((x0.1.set n2 (x0.2.1,y3.2)).set n4 (y5.1,IntKind.wrap .i64 (x0.2.1+(1:Int)),y5.2.2)).set n6 (y7.1,y7.2.1,IntKind.wrap .i64 ((IntKind.wrap .i64 (x0.2.1+(1:Int)))+(1:Int)),y7.2.2.2))[n8]? fun y9=>
 bnd ((((x0.1.set n2 (x0.2.1,y3.2)).set n4 (y5.1,IntKind.wrap .i64 (x0.2.1+(1:Int)),y5.2.2)).set n6 (y7.1,y7.2.1,IntKind.wrap .i64 ((IntKind.wrap .i64 (x0.2.1+(1:Int)))+(1:Int)),y7.2.2.2)).set n8 (y9.1,y9.2.1,y9.2.2.1,IntKind.wrap .i64 ((IntKind.wrap .i64 ((IntKind.wrap .i64 (x0.2.1+(1:Int)))+(1:Int)))+(1:Int)),y9.2.2.2.2)).length x0.2.2 fun n10=>
 Option.bind ((((x0.1.set n2 (x0.2.1,y3.2)).set n4 (y5.1,IntKind.wrap .i64 (x0.2.1+(1:Int)),y5.2.2)).set n6 (y7.1,y7.2.1,IntKind.wrap .i64 ((IntKind.wrap .i64 (x0.2.1+(1:Int)))+(1:Int)),y7.2.2.2)).set n8 (y9.1,y9.2.1,y9.2.2.1,IntKind.wrap .i64 ((IntKind.wrap .i64 ((IntKind.wrap .i64 (x0.2.1+(1:Int)))+(1:Int)))+(1:Int)),y9.2.2.2.2))[n10]? fun y11=>
 bnd (((((x0.1.set n2 (x0.2.1,y3.2)).set n4 (y5.1,IntKind.wrap .i64 (x0.2.1+(1:Int)),y5.2.2)).set n6 (y7.1,y7.2.1,IntKind.wrap .i64 ((IntKind.wrap .i64 (x0.2.1+(1:Int)))+(1:Int)),y7.2.2.2)).set n8 (y9.1,y9.2.1,y9.2.2.1,IntKind.wrap .i64 ((IntKind.wrap .i64 ((IntKind.wrap .i64 (x0.2.1+(1:Int)))+(1:Int)))+(1:Int)),y9.2.2.2.2)).set n10 (y11.1,y11.2.1,y11.2.2.1,y11.2.2.2.1,IntKind.wrap .i64 ((IntKind.wrap .i64 ((IntKind.wrap .i64 ((IntKind.wrap .i64 (x0.2.1+(1:Int)))+(1:Int)))+(1:Int)))+(1:Int)),y11.2.2.2.2.2)).length x0.2.2 fun n12=>
 Option.bind (((((x0.1.set n2 (x0.2.1,y3.2)).set n4 (y5.1,IntKind.wrap .i64 (x0.2.1+(1:Int)),y5.2.2)).set n6 (y7.1,y7.2.1,IntKind.wrap .i64 ((IntKind.wrap .i64 (x0.2.1+(1:Int)))+(1:Int)),y7.2.2.2)).set n8 (y9.1,y9.2.1,y9.2.2.1,IntKind.wrap .i64 ((IntKind.wrap .i64 ((IntKind.wrap .i64 (x0.2.1+(1:Int)))+(1:Int)))+(1:Int)),y9.2.2.2.2)).set n10 (y11.1,y11.2.1,y11.2.2.1,y11.2.2.2.1,IntKind.wrap .i64 ((IntKind.wrap .i64 ((IntKind.wrap .i64 ((IntKind.wrap .i64 (x0.2.1+(1:Int)))+(1:Int)))+(1:Int)))+(1:Int)),y11.2.2.2.2.2))[n12]? fun y13=>
 bnd ((((((x0.1.set n2 (x0.2.1,y3.2)).set n4 (y5.1,IntKind.wrap .i64 (x0.2.1+(1:Int)),y5.2.2)).set n6 (y7.1,y7.2.1,IntKind.wrap .i64 ((IntKind.wrap .i64 (x0.2.1+(1:Int)))+(1:Int)),y7.2.2.2)).set n8 (y9.1,y9.2.1,y9.2.2.1,IntKind.wrap .i64 ((IntKind.wrap .i64 ((IntKind.wrap .i64 (x0.2.1+(1:Int)))+(1:Int)))+(1:Int)),y9.2.2.2.2)).set n10 (y11.1,y11.2.1,y11.2.2.1,y11.2.2.2.1,IntKind.wrap .i64 ((IntKind.wrap .i64 ((IntKind.wrap .i64 ((IntKind.wrap .i64 (x0.2.1+(1:Int)))+(1:Int)))+(1:Int)))+(1:Int)),y11.2.2.2.2.2)).set n12 (y13.1,y13.2.1,y13.2.2.1,y13.2.2.2.1,y13.2.2.2.2.1,IntKind.wrap .i64 ((IntKind.wrap .i64 ((IntKind.wrap .i64 ((IntKind.wrap .i64 ((IntKind.wrap .i64 (x0.2.1+(1:Int)))+(1:Int)))+(1:Int)))+(1:Int)))+(1:Int)),y13.2.2.2.2.2.2)).length x0.2.2 fun n14=>
 Option.bind ((((((x0.1.set n2 (x0.2.1,y3.2)).set n4 (y5.1,IntKind.wrap .i64 (x0.2.1+(1:Int)),y5.2.2)).set n6 (y7.1,y7.2.1,IntKind.wrap .i64 ((IntKind.wrap .i64 (x0.2.1+(1:Int)))+(1:Int)),y7.2.2.2)).set n8 (y9.1,y9.2.1,y9.2.2.1,IntKind.wrap .i64 ((IntKind.wrap .i64 ((IntKind.wrap .i64 (x0.2.1+(1:Int)))+(1:Int)))+(1:Int)),y9.2.2.2.2)).set n10 (y11.1,y11.2.1,y11.2.2.1,y11.2.2.2.1,IntKind.wrap .i64 ((IntKind.wrap .i64 ((IntKind.wrap .i64 ((IntKind.wrap .i64 (x0.2.1+(1:Int)))+(1:Int)))+(1:Int)))+(1:Int)),y11.2.2.2.2.2)).set n12 (y13.1,y13.2.1,y13.2.2.1,y13.2.2.2.1,y13.2.2.2.2.1,IntKind.wrap .i64 ((IntKind.wrap .i64 ((IntKind.wrap .i64 ((IntKind.wrap .i64 ((IntKind.wrap .i64 (x0.2.1+(1:Int)))+(1:Int)))+(1:Int)))+(1:Int)))+(1:Int)),y13.2.2.2.2.2.2))[n14]? fun y15=>
 bif decide ((3:Int)=0) then
 none
 else bnd (((((((x0.1.set n2 (x0.2.1,y3.2)).set n4 (y5.1,IntKind.wrap .i64 (x0.2.1+(1:Int)),y5.2.2)).set n6 (y7.1,y7.2.1,IntKind.wrap .i64 ((IntKind.wrap .i64 (x0.2.1+(1:Int)))+(1:Int)),y7.2.2.2)).set n8 (y9.1,y9.2.1,y9.2.2.1,IntKind.wrap .i64 ((IntKind.wrap .i64 ((IntKind.wrap .i64 (x0.2.1+(1:Int)))+(1:Int)))+(1:Int)),y9.2.2.2.2)).set n10 (y11.1,y11.2.1,y11.2.2.1,y11.2.2.2.1,IntKind.wrap .i64 ((IntKind.wrap .i64 ((IntKind.wrap .i64 ((IntKind.wrap .i64 (x0.2.1+(1:Int)))+(1:Int)))+(1:Int)))+(1:Int)),y11.2.2.2.2.2)).set n12 (y13.1,y13.2.1,y13.2.2.1,y13.2.2.2.1,y13.2.2.2.2.1,IntKind.wrap .i64 ((IntKind.wrap .i64 ((IntKind.wrap .i64 ((IntKind.wrap .i64 ((IntKind.wrap .i64 (x0.2.1+(1:Int)))+(1:Int)))+(1:Int)))+(1:Int)))+(1:Int)),y13.2.2.2.2.2.2)).set n14 (y15.1,y15.2.1,y15.2.2.1,y15.2.2.2.1,y15.2.2.2.2.1,y15.2.2.2.2.2.1,IntKind.wrap .i64 ((IntKind.wrap .i64 ((IntKind.wrap .i64 ((IntKind.wrap .i64 ((IntKind.wrap .i64 ((IntKind.wrap .i64 (x0.2.1+(1:Int)))+(1:Int)))+(1:Int)))+(1:Int)))+(1:Int)))+(1:Int)),y15.2.2.2.2.2.2.2)).length x0.2.2 fun n16=>
 Option.bind (((((((x0.1.set n2 (x0.2.1,y3.2)).set n4 (y5.1,IntKind.wrap .i64 (x0.2.1+(1:Int)),y5.2.2)).set n6 (y7.1,y7.2.1,IntKind.wrap .i64 ((IntKind.wrap .i64 (x0.2.1+(1:Int)))+(1:Int)),y7.2.2.2)).set n8 (y9.1,y9.2.1,y9.2.2.1,IntKind.wrap .i64 ((IntKind.wrap .i64 ((IntKind.wrap .i64 (x0.2.1+(1:Int)))+(1:Int)))+(1:Int)),y9.2.2.2.2)).set n10 (y11.1,y11.2.1,y11.2.2.1,y11.2.2.2.1,IntKind.wrap .i64 ((IntKind.wrap .i64 ((IntKind.wrap .i64 ((IntKind.wrap .i64 (x0.2.1+(1:Int)))+(1:Int)))+(1:Int)))+(1:Int)),y11.2.2.2.2.2)).set n12 (y13.1,y13.2.1,y13.2.2.1,y13.2.2.2.1,y13.2.2.2.2.1,IntKind.wrap .i64 ((IntKind.wrap .i64 ((IntKind.wrap .i64 ((IntKind.wrap .i64 ((IntKind.wrap .i64 (x0.2.1+(1:Int)))+(1:Int)))+(1:Int)))+(1:Int)))+(1:Int)),y13.2.2.2.2.2.2)).set n14 (y15.1,y15.2.1,y15.2.2.1,y15.2.2.2.1,y15.2.2.2.2.1,y15.2.2.2.2.2.1,IntKind.wrap .i64 ((IntKind.wrap .i64 ((IntKind.wrap .i64 ((IntKind.wrap .i64 ((IntKind.wrap .i64 ((IntKind.wrap .i64 (x0.2.1+(1:Int)))+(1:Int)))+(1:Int)))+(1:Int)))+(1:Int)))+(1:Int)),y15.2.2.2.2.2.2.2))[n16]? fun y17=>
 bnd ((((((((x0.1.set n2 (x0.2.1,y3.2)).set n4 (y5.1,IntKind.wrap .i64 (x0.2.1+(1:Int)),y5.2.2)).set n6 (y7.1,y7.2.1,IntKind.wrap .i64 ((IntKind.wrap .i64 (x0.2.1+(1:Int)))+(1:Int)),y7.2.2.2)).set n8 (y9.1,y9.2.1,y9.2.2.1,IntKind.wrap .i64 ((IntKind.wrap .i64 ((IntKind.wrap .i64 (x0.2.1+(1:Int)))+(1:Int)))+(1:Int)),y9.2.2.2.2)).set n10 (y11.1,y11.2.1,y11.2.2.1,y11.2.2.2.1,IntKind.wrap .i64 ((IntKind.wrap .i64 ((IntKind.wrap .i64 ((IntKind.wrap .i64 (x0.2.1+(1:Int)))+(1:Int)))+(1:Int)))+(1:Int)),y11.2.2.2.2.2)).set n12 (y13.1,y13.2.1,y13.2.2.1,y13.2.2.2.1,y13.2.2.2.2.1,IntKind.wrap .i64 ((IntKind.wrap .i64 ((IntKind.wrap .i64 ((IntKind.wrap .i64 ((IntKind.wrap .i64 (x0.2.1+(1:Int)))+(1:Int)))+(1:Int)))+(1:Int)))+(1:Int)),y13.2.2.2.2.2.2)).set n14 (y15.1,y15.2.1,y15.2.2.1,y15.2.2.2.1,y15.2.2.2.2.1,y15.2.2.2.2.2.1,IntKind.wrap .i64 ((IntKind.wrap .i64 ((IntKind.wrap .i64 ((IntKind.wrap .i64 ((IntKind.wrap .i64 ((IntKind.wrap .i64 (x0.2.1+(1:Int)))+(1:Int)))+(1:Int)))+(1:Int)))+(1:Int)))+(1:Int)),y15.2.2.2.2.2.2.2)).set n16 (y17.1,y17.2.1,y17.2.2.1,y17.2.2.2.1,y17.2.2.2.2.1,y17.2.2.2.2.2.1,y17.2.2.2.2.2.2.1,decide ((Int.tmod (IntKind.wrap .i64 ((IntKind.wrap .i64 ((IntKind.wrap .i64 ((IntKind.wrap .i64 ((IntKind.wrap .i64 ((IntKind.wrap .i64 ((IntKind.wrap .i64 (x0.2.1+(1:Int)))+(1:Int)))+(1:Int)))+(1:Int)))+(1:Int)))+(1:Int)))+(1:Int))) (3:Int))=(0:Int)),y17.2.2.2.2.2.2.2.2)).length x0.2.2 fun n18=>
 Option.bind ((((((((x0.1.set n2 (x0.2.1,y3.2)).set n4 (y5.1,IntKind.wrap .i64 (x0.2.1+(1:Int)),y5.2.2)).set n6 (y7.1,y7.2.1,IntKind.wrap .i64 ((IntKind.wrap .i64 (x0.2.1+(1:Int)))+(1:Int)),y7.2.2.2)).set n8 (y9.1,y9.2.1,y9.2.2.1,IntKind.wrap .i64 ((IntKind.wrap .i64 ((IntKind.wrap .i64 (x0.2.1+(1:Int)))+(1:Int)))+(1:Int)),y9.2.2.2.2)).set n10 (y11.1,y11.2.1,y11.2.2.1,y11.2.2.2.1,IntKind.wrap .i64 ((IntKind.wrap .i64 ((IntKind.wrap .i64 ((IntKind.wrap .i64 (x0.2.1+(1:Int)))+(1:Int)))+(1:Int)))+(1:Int)),y11.2.2.2.2.2)).set n12 (y13.1,y13.2.1,y13.2.2.1,y13.2.2.2.1,y13.2.2.2.2.1,IntKind.wrap .i64 ((IntKind.wrap .i64 ((IntKind.wrap .i64 ((IntKind.wrap .i64 ((IntKind.wrap .i64 (x0.2.1+(1:Int)))+(1:Int)))+(1:Int)))+(1:Int)))+(1:Int)),y13.2.2.2.2.2.2)).set n14 (y15.1,y15.2.1,y15.2.2.1,y15.2.2.2.1,y15.2.2.2.2.1,y15.2.2.2.2.2.1,IntKind.wrap .i64 ((IntKind.wrap .i64 ((IntKind.wrap .i64 ((IntKind.wrap .i64 ((IntKind.wrap .i64 ((IntKind.wrap .i64 (x0.2.1+(1:Int)))+(1:Int)))+(1:Int)))+(1:Int)))+(1:Int)))+(1:Int)),y15.2.2.2.2.2.2.2)).set n16 (y17.1,y17.2.1,y17.2.2.1,y17.2.2.2.1,y17.2.2.2.2.1,y17.2.2.2.2.2.1,y17.2.2.2.2.2.2.1,decide ((Int.tmod (IntKind.wrap .i64 ((IntKind.wrap .i64 ((IntKind.wrap .i64 ((IntKind.wrap .i64 ((IntKind.wrap .i64 ((IntKind.wrap .i64 ((IntKind.wrap .i64 (x0.2.1+(1:Int)))+(1:Int)))+(1:Int)))+(1:Int)))+(1:Int)))+(1:Int)))+(1:Int))) (3:Int))=(0:Int)),y17.2.2.2.2.2.2.2.2))[n18]? fun y19=>
 Option.bind (g_lmarkEdgeS (y19.2.2.2.2.2.2.2.2.1,IntKind.wrap .i64 ((IntKind.wrap .i64 ((IntKind.wrap .i64 ((IntKind.wrap .i64 ((IntKind.wrap .i64 ((IntKind.wrap .i64 ((IntKind.wrap .i64 ((IntKind.wrap .i64 (x0.2.1+(1:Int)))+(1:Int)))+(1:Int)))+(1:Int)))+(1:Int)))+(1:Int)))+(1:Int)))+(1:Int)))) fun r20=>
 Option.bind ((((((((x0.1.set n2 (x0.2.1,y3.2)).set n4 (y5.1,IntKind.wrap .i64 (x0.2.1+(1:Int)),y5.2.2)).set n6 (y7.1,y7.2.1,IntKind.wrap .i64 ((IntKind.wrap .i64 (x0.2.1+(1:Int)))+(1:Int)),y7.2.2.2)).set n8 (y9.1,y9.2.1,y9.2.2.1,IntKind.wrap .i64 ((IntKind.wrap .i64 ((IntKind.wrap .i64 (x0.2.1+(1:Int)))+(1:Int)))+(1:Int)),y9.2.2.2.2)).set n10 (y11.1,y11.2.1,y11.2.2.1,y11.2.2.2.1,IntKind.wrap .i64 ((IntKind.wrap .i64 ((IntKind.wrap .i64 ((IntKind.wrap .i64 (x0.2.1+(1:Int)))+(1:Int)))+(1:Int)))+(1:Int)),y11.2.2.2.2.2)).set n12 (y13.1,y13.2.1,y13.2.2.1,y13.2.2.2.1,y13.2.2.2.2.1,IntKind.wrap .i64 ((IntKind.wrap .i64 ((IntKind.wrap .i64 ((IntKind.wrap .i64 ((IntKind.wrap .i64 (x0.2.1+(1:Int)))+(1:Int)))+(1:Int)))+(1:Int)))+(1:Int)),y13.2.2.2.2.2.2)).set n14 (y15.1,y15.2.1,y15.2.2.1,y15.2.2.2.1,y15.2.2.2.2.1,y15.2.2.2.2.2.1,IntKind.wrap .i64 ((IntKind.wrap .i64 ((IntKind.wrap .i64 ((IntKind.wrap .i64 ((IntKind.wrap .i64 ((IntKind.wrap .i64 (x0.2.1+(1:Int)))+(1:Int)))+(1:Int)))+(1:Int)))+(1:Int)))+(1:Int)),y15.2.2.2.2.2.2.2)).set n16 (y17.1,y17.2.1,y17.2.2.1,y17.2.2.2.1,y17.2.2.2.2.1,y17.2.2.2.2.2.1,y17.2.2.2.2.2.2.1,decide ((Int.tmod (IntKind.wrap .i64 ((IntKind.wrap .i64 ((IntKind.wrap .i64 ((IntKind.wrap .i64 ((IntKind.wrap .i64 ((IntKind.wrap .i64 ((IntKind.wrap .i64 (x0.2.1+(1:Int)))+(1:Int)))+(1:Int)))+(1:Int)))+(1:Int)))+(1:Int)))+(1:Int))) (3:Int))=(0:Int)),y17.2.2.2.2.2.2.2.2))[n18]? fun y21=>
 bnd (((((((((x0.1.set n2 (x0.2.1,y3.2)).set n4 (y5.1,IntKind.wrap .i64 (x0.2.1+(1:Int)),y5.2.2)).set n6 (y7.1,y7.2.1,IntKind.wrap .i64 ((IntKind.wrap .i64 (x0.2.1+(1:Int)))+(1:Int)),y7.2.2.2)).set n8 (y9.1,y9.2.1,y9.2.2.1,IntKind.wrap .i64 ((IntKind.wrap .i64 ((IntKind.wrap .i64 (x0.2.1+(1:Int)))+(1:Int)))+(1:Int)),y9.2.2.2.2)).set n10 (y11.1,y11.2.1,y11.2.2.1,y11.2.2.2.1,IntKind.wrap .i64 ((IntKind.wrap .i64 ((IntKind.wrap .i64 ((IntKind.wrap .i64 (x0.2.1+(1:Int)))+(1:Int)))+(1:Int)))+(1:Int)),y11.2.2.2.2.2)).set n12 (y13.1,y13.2.1,y13.2.2.1,y13.2.2.2.1,y13.2.2.2.2.1,IntKind.wrap .i64 ((IntKind.wrap .i64 ((IntKind.wrap .i64 ((IntKind.wrap .i64 ((IntKind.wrap .i64 (x0.2.1+(1:Int)))+(1:Int)))+(1:Int)))+(1:Int)))+(1:Int)),y13.2.2.2.2.2.2)).set n14 (y15.1,y15.2.1,y15.2.2.1,y15.2.2.2.1,y15.2.2.2.2.1,y15.2.2.2.2.2.1,IntKind.wrap .i64 ((IntKind.wrap .i64 ((IntKind.wrap .i64 ((IntKind.wrap .i64 ((IntKind.wrap .i64 ((IntKind.wrap .i64 (x0.2.1+(1:Int)))+(1:Int)))+(1:Int)))+(1:Int)))+(1:Int)))+(1:Int)),y15.2.2.2.2.2.2.2)).set n16 (y17.1,y17.2.1,y17.2.2.1,y17.2.2.2.1,y17.2.2.2.2.1,y17.2.2.2.2.2.1,y17.2.2.2.2.2.2.1,decide ((Int.tmod (IntKind.wrap .i64 ((IntKind.wrap .i64 ((IntKind.wrap .i64 ((IntKind.wrap .i64 ((IntKind.wrap .i64 ((IntKind.wrap .i64 ((IntKind.wrap .i64 (x0.2.1+(1:Int)))+(1:Int)))+(1:Int)))+(1:Int)))+(1:Int)))+(1:Int)))+(1:Int))) (3:Int))=(0:Int)),y17.2.2.2.2.2.2.2.2)).set n18 (y21.1,y21.2.1,y21.2.2.1,y21.2.2.2.1,y21.2.2.2.2.1,y21.2.2.2.2.2.1,y21.2.2.2.2.2.2.1,y21.2.2.2.2.2.2.2.1,r20.2,y21.2.2.2.2.2.2.2.2.2)).length x0.2.2 fun n22=>
 Option.bind (((((((((x0.1.set n2 (x0.2.1,y3.2)).set n4 (y5.1,IntKind.wrap .i64 (x0.2.1+(1:Int)),y5.2.2)).set n6 (y7.1,y7.2.1,IntKind.wrap .i64 ((IntKind.wrap .i64 (x0.2.1+(1:Int)))+(1:Int)),y7.2.2.2)).set n8 (y9.1,y9.2.1,y9.2.2.1,IntKind.wrap .i64 ((IntKind.wrap .i64 ((IntKind.wrap .i64 (x0.2.1+(1:Int)))+(1:Int)))+(1:Int)),y9.2.2.2.2)).set n10 (y11.1,y11.2.1,y11.2.2.1,y11.2.2.2.1,IntKind.wrap .i64 ((IntKind.wrap .i64 ((IntKind.wrap .i64 ((IntKind.wrap .i64 (x0.2.1+(1:Int)))+(1:Int)))+(1:Int)))+(1:Int)),y11.2.2.2.2.2)).set n12 (y13.1,y13.2.1,y13.2.2.1,y13.2.2.2.1,y13.2.2.2.2.1,IntKind.wrap .i64 ((IntKind.wrap .i64 ((IntKind.wrap .i64 ((IntKind.wrap .i64 ((IntKind.wrap .i64 (x0.2.1+(1:Int)))+(1:Int)))+(1:Int)))+(1:Int)))+(1:Int)),y13.2.2.2.2.2.2)).set n14 (y15.1,y15.2.1,y15.2.2.1,y15.2.2.2.1,y15.2.2.2.2.1,y15.2.2.2.2.2.1,IntKind.wrap .i64 ((IntKind.wrap .i64 ((IntKind.wrap .i64 ((IntKind.wrap .i64 ((IntKind.wrap .i64 ((IntKind.wrap .i64 (x0.2.1+(1:Int)))+(1:Int)))+(1:Int)))+(1:Int)))+(1:Int)))+(1:Int)),y15.2.2.2.2.2.2.2)).set n16 (y17.1,y17.2.1,y17.2.2.1,y17.2.2.2.1,y17.2.2.2.2.1,y17.2.2.2.2.2.1,y17.2.2.2.2.2.2.1,decide ((Int.tmod (IntKind.wrap .i64 ((IntKind.wrap .i64 ((IntKind.wrap .i64 ((IntKind.wrap .i64 ((IntKind.wrap .i64 ((IntKind.wrap .i64 ((IntKind.wrap .i64 (x0.2.1+(1:Int)))+(1:Int)))+(1:Int)))+(1:Int)))+(1:Int)))+(1:Int)))+(1:Int))) (3:Int))=(0:Int)),y17.2.2.2.2.2.2.2.2)).set n18 (y21.1,y21.2.1,y21.2.2.1,y21.2.2.2.1,y21.2.2.2.2.1,y21.2.2.2.2.2.1,y21.2.2.2.2.2.2.1,y21.2.2.2.2.2.2.2.1,r20.2,y21.2.2.2.2.2.2.2.2.2))[n22]? fun y23=>
 Option.bind (g_lmarkIntS (y23.2.2.2.2.2.2.2.2.2.1,r20.1)) fun r24=>
 Option.bind (((((((((x0.1.set n2 (x0.2.1,y3.2)).set n4 (y5.1,IntKind.wrap .i64 (x0.2.1+(1:Int)),y5.2.2)).set n6 (y7.1,y7.2.1,IntKind.wrap .i64 ((IntKind.wrap .i64 (x0.2.1+(1:Int)))+(1:Int)),y7.2.2.2)).set n8 (y9.1,y9.2.1,y9.2.2.1,IntKind.wrap .i64 ((IntKind.wrap .i64 ((IntKind.wrap .i64 (x0.2.1+(1:Int)))+(1:Int)))+(1:Int)),y9.2.2.2.2)).set n10 (y11.1,y11.2.1,y11.2.2.1,y11.2.2.2.1,IntKind.wrap .i64 ((IntKind.wrap .i64 ((IntKind.wrap .i64 ((IntKind.wrap .i64 (x0.2.1+(1:Int)))+(1:Int)))+(1:Int)))+(1:Int)),y11.2.2.2.2.2)).set n12 (y13.1,y13.2.1,y13.2.2.1,y13.2.2.2.1,y13.2.2.2.2.1,IntKind.wrap .i64 ((IntKind.wrap .i64 ((IntKind.wrap .i64 ((IntKind.wrap .i64 ((IntKind.wrap .i64 (x0.2.1+(1:Int)))+(1:Int)))+(1:Int)))+(1:Int)))+(1:Int)),y13.2.2.2.2.2.2)).set n14 (y15.1,y15.2.1,y15.2.2.1,y15.2.2.2.1,y15.2.2.2.2.1,y15.2.2.2.2.2.1,IntKind.wrap .i64 ((IntKind.wrap .i64 ((IntKind.wrap .i64 ((IntKind.wrap .i64 ((IntKind.wrap .i64 ((IntKind.wrap .i64 (x0.2.1+(1:Int)))+(1:Int)))+(1:Int)))+(1:Int)))+(1:Int)))+(1:Int)),y15.2.2.2.2.2.2.2)).set n16 (y17.1,y17.2.1,y17.2.2.1,y17.2.2.2.1,y17.2.2.2.2.1,y17.2.2.2.2.2.1,y17.2.2.2.2.2.2.1,decide ((Int.tmod (IntKind.wrap .i64 ((IntKind.wrap .i64 ((IntKind.wrap .i64 ((IntKind.wrap .i64 ((IntKind.wrap .i64 ((IntKind.wrap .i64 ((IntKind.wrap .i64 (x0.2.1+(1:Int)))+(1:Int)))+(1:Int)))+(1:Int)))+(1:Int)))+(1:Int)))+(1:Int))) (3:Int))=(0:Int)),y17.2.2.2.2.2.2.2.2)).set n18 (y21.1,y21.2.1,y21.2.2.1,y21.2.2.2.1,y21.2.2.2.2.1,y21.2.2.2.2.2.1,y21.2.2.2.2.2.2.1,y21.2.2.2.2.2.2.2.1,r20.2,y21.2.2.2.2.2.2.2.2.2))[n22]? fun y25=>
 bnd ((((((((((x0.1.set n2 (x0.2.1,y3.2)).set n4 (y5.1,IntKind.wrap .i64 (x0.2.1+(1:Int)),y5.2.2)).set n6 (y7.1,y7.2.1,IntKind.wrap .i64 ((IntKind.wrap .i64 (x0.2.1+(1:Int)))+(1:Int)),y7.2.2.2)).set n8 (y9.1,y9.2.1,y9.2.2.1,IntKind.wrap .i64 ((IntKind.wrap .i64 ((IntKind.wrap .i64 (x0.2.1+(1:Int)))+(1:Int)))+(1:Int)),y9.2.2.2.2)).set n10 (y11.1,y11.2.1,y11.2.2.1,y11.2.2.2.1,IntKind.wrap .i64 ((IntKind.wrap .i64 ((IntKind.wrap .i64 ((IntKind.wrap .i64 (x0.2.1+(1:Int)))+(1:Int)))+(1:Int)))+(1:Int)),y11.2.2.2.2.2)).set n12 (y13.1,y13.2.1,y13.2.2.1,y13.2.2.2.1,y13.2.2.2.2.1,IntKind.wrap .i64 ((IntKind.wrap .i64 ((IntKind.wrap .i64 ((IntKind.wrap .i64 ((IntKind.wrap .i64 (x0.2.1+(1:Int)))+(1:Int)))+(1:Int)))+(1:Int)))+(1:Int)),y13.2.2.2.2.2.2)).set n14 (y15.1,y15.2.1,y15.2.2.1,y15.2.2.2.1,y15.2.2.2.2.1,y15.2.2.2.2.2.1,IntKind.wrap .i64 ((IntKind.wrap .i64 ((IntKind.wrap .i64 ((IntKind.wrap .i64 ((IntKind.wrap .i64 ((IntKind.wrap .i64 (x0.2.1+(1:Int)))+(1:Int)))+(1:Int)))+(1:Int)))+(1:Int)))+(1:Int)),y15.2.2.2.2.2.2.2)).set n16 (y17.1,y17.2.1,y17.2.2.1,y17.2.2.2.1,y17.2.2.2.2.1,y17.2.2.2.2.2.1,y17.2.2.2.2.2.2.1,decide ((Int.tmod (IntKind.wrap .i64 ((IntKind.wrap .i64 ((IntKind.wrap .i64 ((IntKind.wrap .i64 ((IntKind.wrap .i64 ((IntKind.wrap .i64 ((IntKind.wrap .i64 (x0.2.1+(1:Int)))+(1:Int)))+(1:Int)))+(1:Int)))+(1:Int)))+(1:Int)))+(1:Int))) (3:Int))=(0:Int)),y17.2.2.2.2.2.2.2.2)).set n18 (y21.1,y21.2.1,y21.2.2.1,y21.2.2.2.1,y21.2.2.2.2.1,y21.2.2.2.2.2.1,y21.2.2.2.2.2.2.1,y21.2.2.2.2.2.2.2.1,r20.2,y21.2.2.2.2.2.2.2.2.2)).set n22 (y25.1,y25.2.1,y25.2.2.1,y25.2.2.2.1,y25.2.2.2.2.1,y25.2.2.2.2.2.1,y25.2.2.2.2.2.2.1,y25.2.2.2.2.2.2.2.1,y25.2.2.2.2.2.2.2.2.1,r24.2,y25.2.2.2.2.2.2.2.2.2.2)).length x0.2.2 fun n26=>
 Option.bind ((((((((((x0.1.set n2 (x0.2.1,y3.2)).set n4 (y5.1,IntKind.wrap .i64 (x0.2.1+(1:Int)),y5.2.2)).set n6 (y7.1,y7.2.1,IntKind.wrap .i64 ((IntKind.wrap .i64 (x0.2.1+(1:Int)))+(1:Int)),y7.2.2.2)).set n8 (y9.1,y9.2.1,y9.2.2.1,IntKind.wrap .i64 ((IntKind.wrap .i64 ((IntKind.wrap .i64 (x0.2.1+(1:Int)))+(1:Int)))+(1:Int)),y9.2.2.2.2)).set n10 (y11.1,y11.2.1,y11.2.2.1,y11.2.2.2.1,IntKind.wrap .i64 ((IntKind.wrap .i64 ((IntKind.wrap .i64 ((IntKind.wrap .i64 (x0.2.1+(1:Int)))+(1:Int)))+(1:Int)))+(1:Int)),y11.2.2.2.2.2)).set n12 (y13.1,y13.2.1,y13.2.2.1,y13.2.2.2.1,y13.2.2.2.2.1,IntKind.wrap .i64 ((IntKind.wrap .i64 ((IntKind.wrap .i64 ((IntKind.wrap .i64 ((IntKind.wrap .i64 (x0.2.1+(1:Int)))+(1:Int)))+(1:Int)))+(1:Int)))+(1:Int)),y13.2.2.2.2.2.2)).set n14 (y15.1,y15.2.1,y15.2.2.1,y15.2.2.2.1,y15.2.2.2.2.1,y15.2.2.2.2.2.1,IntKind.wrap .i64 ((IntKind.wrap .i64 ((IntKind.wrap .i64 ((IntKind.wrap .i64 ((IntKind.wrap .i64 ((IntKind.wrap .i64 (x0.2.1+(1:Int)))+(1:Int)))+(1:Int)))+(1:Int)))+(1:Int)))+(1:Int)),y15.2.2.2.2.2.2.2)).set n16 (y17.1,y17.2.1,y17.2.2.1,y17.2.2.2.1,y17.2.2.2.2.1,y17.2.2.2.2.2.1,y17.2.2.2.2.2.2.1,decide ((Int.tmod (IntKind.wrap .i64 ((IntKind.wrap .i64 ((IntKind.wrap .i64 ((IntKind.wrap .i64 ((IntKind.wrap .i64 ((IntKind.wrap .i64 ((IntKind.wrap .i64 (x0.2.1+(1:Int)))+(1:Int)))+(1:Int)))+(1:Int)))+(1:Int)))+(1:Int)))+(1:Int))) (3:Int))=(0:Int)),y17.2.2.2.2.2.2.2.2)).set n18 (y21.1,y21.2.1,y21.2.2.1,y21.2.2.2.1,y21.2.2.2.2.1,y21.2.2.2.2.2.1,y21.2.2.2.2.2.2.1,y21.2.2.2.2.2.2.2.1,r20.2,y21.2.2.2.2.2.2.2.2.2)).set n22 (y25.1,y25.2.1,y25.2.2.1,y25.2.2.2.1,y25.2.2.2.2.1,y25.2.2.2.2.2.1,y25.2.2.2.2.2.2.1,y25.2.2.2.2.2.2.2.1,y25.2.2.2.2.2.2.2.2.1,r24.2,y25.2.2.2.2.2.2.2.2.2.2))[n26]? fun y27=>
 bnd (((((((((((x0.1.set n2 (x0.2.1,y3.2)).set n4 (y5.1,IntKind.wrap .i64 (x0.2.1+(1:Int)),y5.2.2)).set n6 (y7.1,y7.2.1,IntKind.wrap .i64 ((IntKind.wrap .i64 (x0.2.1+(1:Int)))+(1:Int)),y7.2.2.2)).set n8 (y9.1,y9.2.1,y9.2.2.1,IntKind.wrap .i64 ((IntKind.wrap .i64 ((IntKind.wrap .i64 (x0.2.1+(1:Int)))+(1:Int)))+(1:Int)),y9.2.2.2.2)).set n10 (y11.1,y11.2.1,y11.2.2.1,y11.2.2.2.1,IntKind.wrap .i64 ((IntKind.wrap .i64 ((IntKind.wrap .i64 ((IntKind.wrap .i64 (x0.2.1+(1:Int)))+(1:Int)))+(1:Int)))+(1:Int)),y11.2.2.2.2.2)).set n12 (y13.1,y13.2.1,y13.2.2.1,y13.2.2.2.1,y13.2.2.2.2.1,IntKind.wrap .i64 ((IntKind.wrap .i64 ((IntKind.wrap .i64 ((IntKind.wrap .i64 ((IntKind.wrap .i64 (x0.2.1+(1:Int)))+(1:Int)))+(1:Int)))+(1:Int)))+(1:Int)),y13.2.2.2.2.2.2)).set n14 (y15.1,y15.2.1,y15.2.2.1,y15.2.2.2.1,y15.2.2.2.2.1,y15.2.2.2.2.2.1,IntKind.wrap .i64 ((IntKind.wrap .i64 ((IntKind.wrap .i64 ((IntKind.wrap .i64 ((IntKind.wrap .i64 ((IntKind.wrap .i64 (x0.2.1+(1:Int)))+(1:Int)))+(1:Int)))+(1:Int)))+(1:Int)))+(1:Int)),y15.2.2.2.2.2.2.2)).set n16 (y17.1,y17.2.1,y17.2.2.1,y17.2.2.2.1,y17.2.2.2.2.1,y17.2.2.2.2.2.1,y17.2.2.2.2.2.2.1,decide ((Int.tmod (IntKind.wrap .i64 ((IntKind.wrap .i64 ((IntKind.wrap .i64 ((IntKind.wrap .i64 ((IntKind.wrap .i64 ((IntKind.wrap .i64 ((IntKind.wrap .i64 (x0.2.1+(1:Int)))+(1:Int)))+(1:Int)))+(1:Int)))+(1:Int)))+(1:Int)))+(1:Int))) (3:Int))=(0:Int)),y17.2.2.2.2.2.2.2.2)).set n18 (y21.1,y21.2.1,y21.2.2.1,y21.2.2.2.1,y21.2.2.2.2.1,y21.2.2.2.2.2.1,y21.2.2.2.2.2.2.1,y21.2.2.2.2.2.2.2.1,r20.2,y21.2.2.2.2.2.2.2.2.2)).set n22 (y25.1,y25.2.1,y25.2.2.1,y25.2.2.2.1,y25.2.2.2.2.1,y25.2.2.2.2.2.1,y25.2.2.2.2.2.2.1,y25.2.2.2.2.2.2.2.1,y25.2.2.2.2.2.2.2.2.1,r24.2,y25.2.2.2.2.2.2.2.2.2.2)).set n26 (y27.1,y27.2.1,y27.2.2.1,y27.2.2.2.1,y27.2.2.2.2.1,y27.2.2.2.2.2.1,y27.2.2.2.2.2.2.1,y27.2.2.2.2.2.2.2.1,y27.2.2.2.2.2.2.2.2.1,y27.2.2.2.2.2.2.2.2.2.1,r24.1,y27.2.2.2.2.2.2.2.2.2.2.2)).length x0.2.2 fun n28=>
 Option.bind (((((((((((x0.1.set n2 (x0.2.1,y3.2)).set n4 (y5.1,IntKind.wrap .i64 (x0.2.1+(1:Int)),y5.2.2)).set n6 (y7.1,y7.2.1,IntKind.wrap .i64 ((IntKind.wrap .i64 (x0.2.1+(1:Int)))+(1:Int)),y7.2.2.2)).set n8 (y9.1,y9.2.1,y9.2.2.1,IntKind.wrap .i64 ((IntKind.wrap .i64 ((IntKind.wrap .i64 (x0.2.1+(1:Int)))+(1:Int)))+(1:Int)),y9.2.2.2.2)).set n10 (y11.1,y11.2.1,y11.2.2.1,y11.2.2.2.1,IntKind.wrap .i64 ((IntKind.wrap .i64 ((IntKind.wrap .i64 ((IntKind.wrap .i64 (x0.2.1+(1:Int)))+(1:Int)))+(1:Int)))+(1:Int)),y11.2.2.2.2.2)).set n12 (y13.1,y13.2.1,y13.2.2.1,y13.2.2.2.1,y13.2.2.2.2.1,IntKind.wrap .i64 ((IntKind.wrap .i64 ((IntKind.wrap .i64 ((IntKind.wrap .i64 ((IntKind.wrap .i64 (x0.2.1+(1:Int)))+(1:Int)))+(1:Int)))+(1:Int)))+(1:Int)),y13.2.2.2.2.2.2)).set n14 (y15.1,y15.2.1,y15.2.2.1,y15.2.2.2.1,y15.2.2.2.2.1,y15.2.2.2.2.2.1,IntKind.wrap .i64 ((IntKind.wrap .i64 ((IntKind.wrap .i64 ((IntKind.wrap .i64 ((IntKind.wrap .i64 ((IntKind.wrap .i64 (x0.2.1+(1:Int)))+(1:Int)))+(1:Int)))+(1:Int)))+(1:Int)))+(1:Int)),y15.2.2.2.2.2.2.2)).set n16 (y17.1,y17.2.1,y17.2.2.1,y17.2.2.2.1,y17.2.2.2.2.1,y17.2.2.2.2.2.1,y17.2.2.2.2.2.2.1,decide ((Int.tmod (IntKind.wrap .i64 ((IntKind.wrap .i64 ((IntKind.wrap .i64 ((IntKind.wrap .i64 ((IntKind.wrap .i64 ((IntKind.wrap .i64 ((IntKind.wrap .i64 (x0.2.1+(1:Int)))+(1:Int)))+(1:Int)))+(1:Int)))+(1:Int)))+(1:Int)))+(1:Int))) (3:Int))=(0:Int)),y17.2.2.2.2.2.2.2.2)).set n18 (y21.1,y21.2.1,y21.2.2.1,y21.2.2.2.1,y21.2.2.2.2.1,y21.2.2.2.2.2.1,y21.2.2.2.2.2.2.1,y21.2.2.2.2.2.2.2.1,r20.2,y21.2.2.2.2.2.2.2.2.2)).set n22 (y25.1,y25.2.1,y25.2.2.1,y25.2.2.2.1,y25.2.2.2.2.1,y25.2.2.2.2.2.1,y25.2.2.2.2.2.2.1,y25.2.2.2.2.2.2.2.1,y25.2.2.2.2.2.2.2.2.1,r24.2,y25.2.2.2.2.2.2.2.2.2.2)).set n26 (y27.1,y27.2.1,y27.2.2.1,y27.2.2.2.1,y27.2.2.2.2.1,y27.2.2.2.2.2.1,y27.2.2.2.2.2.2.1,y27.2.2.2.2.2.2.2.1,y27.2.2.2.2.2.2.2.2.1,y27.2.2.2.2.2.2.2.2.2.1,r24.1,y27.2.2.2.2.2.2.2.2.2.2.2))[n28]? fun y29=>
 bnd ((((((((((((x0.1.set n2 (x0.2.1,y3.2)).set n4 (y5.1,IntKind.wrap .i64 (x0.2.1+(1:Int)),y5.2.2)).set n6 (y7.1,y7.2.1,IntKind.wrap .i64 ((IntKind.wrap .i64 (x0.2.1+(1:Int)))+(1:Int)),y7.2.2.2)).set n8 (y9.1,y9.2.1,y9.2.2.1,IntKind.wrap .i64 ((IntKind.wrap .i64 ((IntKind.wrap .i64 (x0.2.1+(1:Int)))+(1:Int)))+(1:Int)),y9.2.2.2.2)).set n10 (y11.1,y11.2.1,y11.2.2.1,y11.2.2.2.1,IntKind.wrap .i64 ((IntKind.wrap .i64 ((IntKind.wrap .i64 ((IntKind.wrap .i64 (x0.2.1+(1:Int)))+(1:Int)))+(1:Int)))+(1:Int)),y11.2.2.2.2.2)).set n12 (y13.1,y13.2.1,y13.2.2.1,y13.2.2.2.1,y13.2.2.2.2.1,IntKind.wrap .i64 ((IntKind.wrap .i64 ((IntKind.wrap .i64 ((IntKind.wrap .i64 ((IntKind.wrap .i64 (x0.2.1+(1:Int)))+(1:Int)))+(1:Int)))+(1:Int)))+(1:Int)),y13.2.2.2.2.2.2)).set n14 (y15.1,y15.2.1,y15.2.2.1,y15.2.2.2.1,y15.2.2.2.2.1,y15.2.2.2.2.2.1,IntKind.wrap .i64 ((IntKind.wrap .i64 ((IntKind.wrap .i64 ((IntKind.wrap .i64 ((IntKind.wrap .i64 ((IntKind.wrap .i64 (x0.2.1+(1:Int)))+(1:Int)))+(1:Int)))+(1:Int)))+(1:Int)))+(1:Int)),y15.2.2.2.2.2.2.2)).set n16 (y17.1,y17.2.1,y17.2.2.1,y17.2.2.2.1,y17.2.2.2.2.1,y17.2.2.2.2.2.1,y17.2.2.2.2.2.2.1,decide ((Int.tmod (IntKind.wrap .i64 ((IntKind.wrap .i64 ((IntKind.wrap .i64 ((IntKind.wrap .i64 ((IntKind.wrap .i64 ((IntKind.wrap .i64 ((IntKind.wrap .i64 (x0.2.1+(1:Int)))+(1:Int)))+(1:Int)))+(1:Int)))+(1:Int)))+(1:Int)))+(1:Int))) (3:Int))=(0:Int)),y17.2.2.2.2.2.2.2.2)).set n18 (y21.1,y21.2.1,y21.2.2.1,y21.2.2.2.1,y21.2.2.2.2.1,y21.2.2.2.2.2.1,y21.2.2.2.2.2.2.1,y21.2.2.2.2.2.2.2.1,r20.2,y21.2.2.2.2.2.2.2.2.2)).set n22 (y25.1,y25.2.1,y25.2.2.1,y25.2.2.2.1,y25.2.2.2.2.1,y25.2.2.2.2.2.1,y25.2.2.2.2.2.2.1,y25.2.2.2.2.2.2.2.1,y25.2.2.2.2.2.2.2.2.1,r24.2,y25.2.2.2.2.2.2.2.2.2.2)).set n26 (y27.1,y27.2.1,y27.2.2.1,y27.2.2.2.1,y27.2.2.2.2.1,y27.2.2.2.2.2.1,y27.2.2.2.2.2.2.1,y27.2.2.2.2.2.2.2.1,y27.2.2.2.2.2.2.2.2.1,y27.2.2.2.2.2.2.2.2.2.1,r24.1,y27.2.2.2.2.2.2.2.2.2.2.2)).set n28 (y29.1,y29.2.1,y29.2.2.1,y29.2.2.2.1,y29.2.2.2.2.1,y29.2.2.2.2.2.1,y29.2.2.2.2.2.2.1,y29.2.2.2.2.2.2.2.1,y29.2.2.2.2.2.2.2.2.1,y29.2.2.2.2.2.2.2.2.2.1,y29.2.2.2.2.2.2.2.2.2.2.1,IntKind.wrap .i64 (r24.1+(1:Int)),y29.2.2.2.2.2.2.2.2.2.2.2.2)).length x0.2.2 fun n30=>
 Option.bind ((((((((((((x0.1.set n2 (x0.2.1,y3.2)).set n4 (y5.1,IntKind.wrap .i64 (x0.2.1+(1:Int)),y5.2.2)).set n6 (y7.1,y7.2.1,IntKind.wrap .i64 ((IntKind.wrap .i64 (x0.2.1+(1:Int)))+(1:Int)),y7.2.2.2)).set n8 (y9.1,y9.2.1,y9.2.2.1,IntKind.wrap .i64 ((IntKind.wrap .i64 ((IntKind.wrap .i64 (x0.2.1+(1:Int)))+(1:Int)))+(1:Int)),y9.2.2.2.2)).set n10 (y11.1,y11.2.1,y11.2.2.1,y11.2.2.2.1,IntKind.wrap .i64 ((IntKind.wrap .i64 ((IntKind.wrap .i64 ((IntKind.wrap .i64 (x0.2.1+(1:Int)))+(1:Int)))+(1:Int)))+(1:Int)),y11.2.2.2.2.2)).set n12 (y13.1,y13.2.1,y13.2.2.1,y13.2.2.2.1,y13.2.2.2.2.1,IntKind.wrap .i64 ((IntKind.wrap .i64 ((IntKind.wrap .i64 ((IntKind.wrap .i64 ((IntKind.wrap .i64 (x0.2.1+(1:Int)))+(1:Int)))+(1:Int)))+(1:Int)))+(1:Int)),y13.2.2.2.2.2.2)).set n14 (y15.1,y15.2.1,y15.2.2.1,y15.2.2.2.1,y15.2.2.2.2.1,y15.2.2.2.2.2.1,IntKind.wrap .i64 ((IntKind.wrap .i64 ((IntKind.wrap .i64 ((IntKind.wrap .i64 ((IntKind.wrap .i64 ((IntKind.wrap .i64 (x0.2.1+(1:Int)))+(1:Int)))+(1:Int)))+(1:Int)))+(1:Int)))+(1:Int)),y15.2.2.2.2.2.2.2)).set n16 (y17.1,y17.2.1,y17.2.2.1,y17.2.2.2.1,y17.2.2.2.2.1,y17.2.2.2.2.2.1,y17.2.2.2.2.2.2.1,decide ((Int.tmod (IntKind.wrap .i64 ((IntKind.wrap .i64 ((IntKind.wrap .i64 ((IntKind.wrap .i64 ((IntKind.wrap .i64 ((IntKind.wrap .i64 ((IntKind.wrap .i64 (x0.2.1+(1:Int)))+(1:Int)))+(1:Int)))+(1:Int)))+(1:Int)))+(1:Int)))+(1:Int))) (3:Int))=(0:Int)),y17.2.2.2.2.2.2.2.2)).set n18 (y21.1,y21.2.1,y21.2.2.1,y21.2.2.2.1,y21.2.2.2.2.1,y21.2.2.2.2.2.1,y21.2.2.2.2.2.2.1,y21.2.2.2.2.2.2.2.1,r20.2,y21.2.2.2.2.2.2.2.2.2)).set n22 (y25.1,y25.2.1,y25.2.2.1,y25.2.2.2.1,y25.2.2.2.2.1,y25.2.2.2.2.2.1,y25.2.2.2.2.2.2.1,y25.2.2.2.2.2.2.2.1,y25.2.2.2.2.2.2.2.2.1,r24.2,y25.2.2.2.2.2.2.2.2.2.2)).set n26 (y27.1,y27.2.1,y27.2.2.1,y27.2.2.2.1,y27.2.2.2.2.1,y27.2.2.2.2.2.1,y27.2.2.2.2.2.2.1,y27.2.2.2.2.2.2.2.1,y27.2.2.2.2.2.2.2.2.1,y27.2.2.2.2.2.2.2.2.2.1,r24.1,y27.2.2.2.2.2.2.2.2.2.2.2)).set n28 (y29.1,y29.2.1,y29.2.2.1,y29.2.2.2.1,y29.2.2.2.2.1,y29.2.2.2.2.2.1,y29.2.2.2.2.2.2.1,y29.2.2.2.2.2.2.2.1,y29.2.2.2.2.2.2.2.2.1,y29.2.2.2.2.2.2.2.2.2.1,y29.2.2.2.2.2.2.2.2.2.2.1,IntKind.wrap .i64 (r24.1+(1:Int)),y29.2.2.2.2.2.2.2.2.2.2.2.2))[n30]? fun y31=>
 Option.bind (g_lmarkEdgeS (y31.2.2.2.2.2.2.2.2.2.2.2.2.1,IntKind.wrap .i64 ((IntKind.wrap .i64 (r24.1+(1:Int)))+(1:Int)))) fun r32=>
 Option.bind ((((((((((((x0.1.set n2 (x0.2.1,y3.2)).set n4 (y5.1,IntKind.wrap .i64 (x0.2.1+(1:Int)),y5.2.2)).set n6 (y7.1,y7.2.1,IntKind.wrap .i64 ((IntKind.wrap .i64 (x0.2.1+(1:Int)))+(1:Int)),y7.2.2.2)).set n8 (y9.1,y9.2.1,y9.2.2.1,IntKind.wrap .i64 ((IntKind.wrap .i64 ((IntKind.wrap .i64 (x0.2.1+(1:Int)))+(1:Int)))+(1:Int)),y9.2.2.2.2)).set n10 (y11.1,y11.2.1,y11.2.2.1,y11.2.2.2.1,IntKind.wrap .i64 ((IntKind.wrap .i64 ((IntKind.wrap .i64 ((IntKind.wrap .i64 (x0.2.1+(1:Int)))+(1:Int)))+(1:Int)))+(1:Int)),y11.2.2.2.2.2)).set n12 (y13.1,y13.2.1,y13.2.2.1,y13.2.2.2.1,y13.2.2.2.2.1,IntKind.wrap .i64 ((IntKind.wrap .i64 ((IntKind.wrap .i64 ((IntKind.wrap .i64 ((IntKind.wrap .i64 (x0.2.1+(1:Int)))+(1:Int)))+(1:Int)))+(1:Int)))+(1:Int)),y13.2.2.2.2.2.2)).set n14 (y15.1,y15.2.1,y15.2.2.1,y15.2.2.2.1,y15.2.2.2.2.1,y15.2.2.2.2.2.1,IntKind.wrap .i64 ((IntKind.wrap .i64 ((IntKind.wrap .i64 ((IntKind.wrap .i64 ((IntKind.wrap .i64 ((IntKind.wrap .i64 (x0.2.1+(1:Int)))+(1:Int)))+(1:Int)))+(1:Int)))+(1:Int)))+(1:Int)),y15.2.2.2.2.2.2.2)).set n16 (y17.1,y17.2.1,y17.2.2.1,y17.2.2.2.1,y17.2.2.2.2.1,y17.2.2.2.2.2.1,y17.2.2.2.2.2.2.1,decide ((Int.tmod (IntKind.wrap .i64 ((IntKind.wrap .i64 ((IntKind.wrap .i64 ((IntKind.wrap .i64 ((IntKind.wrap .i64 ((IntKind.wrap .i64 ((IntKind.wrap .i64 (x0.2.1+(1:Int)))+(1:Int)))+(1:Int)))+(1:Int)))+(1:Int)))+(1:Int)))+(1:Int))) (3:Int))=(0:Int)),y17.2.2.2.2.2.2.2.2)).set n18 (y21.1,y21.2.1,y21.2.2.1,y21.2.2.2.1,y21.2.2.2.2.1,y21.2.2.2.2.2.1,y21.2.2.2.2.2.2.1,y21.2.2.2.2.2.2.2.1,r20.2,y21.2.2.2.2.2.2.2.2.2)).set n22 (y25.1,y25.2.1,y25.2.2.1,y25.2.2.2.1,y25.2.2.2.2.1,y25.2.2.2.2.2.1,y25.2.2.2.2.2.2.1,y25.2.2.2.2.2.2.2.1,y25.2.2.2.2.2.2.2.2.1,r24.2,y25.2.2.2.2.2.2.2.2.2.2)).set n26 (y27.1,y27.2.1,y27.2.2.1,y27.2.2.2.1,y27.2.2.2.2.1,y27.2.2.2.2.2.1,y27.2.2.2.2.2.2.1,y27.2.2.2.2.2.2.2.1,y27.2.2.2.2.2.2.2.2.1,y27.2.2.2.2.2.2.2.2.2.1,r24.1,y27.2.2.2.2.2.2.2.2.2.2.2)).set n28 (y29.1,y29.2.1,y29.2.2.1,y29.2.2.2.1,y29.2.2.2.2.1,y29.2.2.2.2.2.1,y29.2.2.2.2.2.2.1,y29.2.2.2.2.2.2.2.1,y29.2.2.2.2.2.2.2.2.1,y29.2.2.2.2.2.2.2.2.2.1,y29.2.2.2.2.2.2.2.2.2.2.1,IntKind.wrap .i64 (r24.1+(1:Int)),y29.2.2.2.2.2.2.2.2.2.2.2.2))[n30]? fun y33=>
 bnd (((((((((((((x0.1.set n2 (x0.2.1,y3.2)).set n4 (y5.1,IntKind.wrap .i64 (x0.2.1+(1:Int)),y5.2.2)).set n6 (y7.1,y7.2.1,IntKind.wrap .i64 ((IntKind.wrap .i64 (x0.2.1+(1:Int)))+(1:Int)),y7.2.2.2)).set n8 (y9.1,y9.2.1,y9.2.2.1,IntKind.wrap .i64 ((IntKind.wrap .i64 ((IntKind.wrap .i64 (x0.2.1+(1:Int)))+(1:Int)))+(1:Int)),y9.2.2.2.2)).set n10 (y11.1,y11.2.1,y11.2.2.1,y11.2.2.2.1,IntKind.wrap .i64 ((IntKind.wrap .i64 ((IntKind.wrap .i64 ((IntKind.wrap .i64 (x0.2.1+(1:Int)))+(1:Int)))+(1:Int)))+(1:Int)),y11.2.2.2.2.2)).set n12 (y13.1,y13.2.1,y13.2.2.1,y13.2.2.2.1,y13.2.2.2.2.1,IntKind.wrap .i64 ((IntKind.wrap .i64 ((IntKind.wrap .i64 ((IntKind.wrap .i64 ((IntKind.wrap .i64 (x0.2.1+(1:Int)))+(1:Int)))+(1:Int)))+(1:Int)))+(1:Int)),y13.2.2.2.2.2.2)).set n14 (y15.1,y15.2.1,y15.2.2.1,y15.2.2.2.1,y15.2.2.2.2.1,y15.2.2.2.2.2.1,IntKind.wrap .i64 ((IntKind.wrap .i64 ((IntKind.wrap .i64 ((IntKind.wrap .i64 ((IntKind.wrap .i64 ((IntKind.wrap .i64 (x0.2.1+(1:Int)))+(1:Int)))+(1:Int)))+(1:Int)))+(1:Int)))+(1:Int)),y15.2.2.2.2.2.2.2)).set n16 (y17.1,y17.2.1,y17.2.2.1,y17.2.2.2.1,y17.2.2.2.2.1,y17.2.2.2.2.2.1,y17.2.2.2.2.2.2.1,decide ((Int.tmod (IntKind.wrap .i64 ((IntKind.wrap .i64 ((IntKind.wrap .i64 ((IntKind.wrap .i64 ((IntKind.wrap .i64 ((IntKind.wrap .i64 ((IntKind.wrap .i64 (x0.2.1+(1:Int)))+(1:Int)))+(1:Int)))+(1:Int)))+(1:Int)))+(1:Int)))+(1:Int))) (3:Int))=(0:Int)),y17.2.2.2.2.2.2.2.2)).set n18 (y21.1,y21.2.1,y21.2.2.1,y21.2.2.2.1,y21.2.2.2.2.1,y21.2.2.2.2.2.1,y21.2.2.2.2.2.2.1,y21.2.2.2.2.2.2.2.1,r20.2,y21.2.2.2.2.2.2.2.2.2)).set n22 (y25.1,y25.2.1,y25.2.2.1,y25.2.2.2.1,y25.2.2.2.2.1,y25.2.2.2.2.2.1,y25.2.2.2.2.2.2.1,y25.2.2.2.2.2.2.2.1,y25.2.2.2.2.2.2.2.2.1,r24.2,y25.2.2.2.2.2.2.2.2.2.2)).set n26 (y27.1,y27.2.1,y27.2.2.1,y27.2.2.2.1,y27.2.2.2.2.1,y27.2.2.2.2.2.1,y27.2.2.2.2.2.2.1,y27.2.2.2.2.2.2.2.1,y27.2.2.2.2.2.2.2.2.1,y27.2.2.2.2.2.2.2.2.2.1,r24.1,y27.2.2.2.2.2.2.2.2.2.2.2)).set n28 (y29.1,y29.2.1,y29.2.2.1,y29.2.2.2.1,y29.2.2.2.2.1,y29.2.2.2.2.2.1,y29.2.2.2.2.2.2.1,y29.2.2.2.2.2.2.2.1,y29.2.2.2.2.2.2.2.2.1,y29.2.2.2.2.2.2.2.2.2.1,y29.2.2.2.2.2.2.2.2.2.2.1,IntKind.wrap .i64 (r24.1+(1:Int)),y29.2.2.2.2.2.2.2.2.2.2.2.2)).set n30 (y33.1,y33.2.1,y33.2.2.1,y33.2.2.2.1,y33.2.2.2.2.1,y33.2.2.2.2.2.1,y33.2.2.2.2.2.2.1,y33.2.2.2.2.2.2.2.1,y33.2.2.2.2.2.2.2.2.1,y33.2.2.2.2.2.2.2.2.2.1,y33.2.2.2.2.2.2.2.2.2.2.1,y33.2.2.2.2.2.2.2.2.2.2.2.1,r32.2,y33.2.2.2.2.2.2.2.2.2.2.2.2.2)).length x0.2.2 fun n34=>
 Option.bind (((((((((((((x0.1.set n2 (x0.2.1,y3.2)).set n4 (y5.1,IntKind.wrap .i64 (x0.2.1+(1:Int)),y5.2.2)).set n6 (y7.1,y7.2.1,IntKind.wrap .i64 ((IntKind.wrap .i64 (x0.2.1+(1:Int)))+(1:Int)),y7.2.2.2)).set n8 (y9.1,y9.2.1,y9.2.2.1,IntKind.wrap .i64 ((IntKind.wrap .i64 ((IntKind.wrap .i64 (x0.2.1+(1:Int)))+(1:Int)))+(1:Int)),y9.2.2.2.2)).set n10 (y11.1,y11.2.1,y11.2.2.1,y11.2.2.2.1,IntKind.wrap .i64 ((IntKind.wrap .i64 ((IntKind.wrap .i64 ((IntKind.wrap .i64 (x0.2.1+(1:Int)))+(1:Int)))+(1:Int)))+(1:Int)),y11.2.2.2.2.2)).set n12 (y13.1,y13.2.1,y13.2.2.1,y13.2.2.2.1,y13.2.2.2.2.1,IntKind.wrap .i64 ((IntKind.wrap .i64 ((IntKind.wrap .i64 ((IntKind.wrap .i64 ((IntKind.wrap .i64 (x0.2.1+(1:Int)))+(1:Int)))+(1:Int)))+(1:Int)))+(1:Int)),y13.2.2.2.2.2.2)).set n14 (y15.1,y15.2.1,y15.2.2.1,y15.2.2.2.1,y15.2.2.2.2.1,y15.2.2.2.2.2.1,IntKind.wrap .i64 ((IntKind.wrap .i64 ((IntKind.wrap .i64 ((IntKind.wrap .i64 ((IntKind.wrap .i64 ((IntKind.wrap .i64 (x0.2.1+(1:Int)))+(1:Int)))+(1:Int)))+(1:Int)))+(1:Int)))+(1:Int)),y15.2.2.2.2.2.2.2)).set n16 (y17.1,y17.2.1,y17.2.2.1,y17.2.2.2.1,y17.2.2.2.2.1,y17.2.2.2.2.2.1,y17.2.2.2.2.2.2.1,decide ((Int.tmod (IntKind.wrap .i64 ((IntKind.wrap .i64 ((IntKind.wrap .i64 ((IntKind.wrap .i64 ((IntKind.wrap .i64 ((IntKind.wrap .i64 ((IntKind.wrap .i64 (x0.2.1+(1:Int)))+(1:Int)))+(1:Int)))+(1:Int)))+(1:Int)))+(1:Int)))+(1:Int))) (3:Int))=(0:Int)),y17.2.2.2.2.2.2.2.2)).set n18 (y21.1,y21.2.1,y21.2.2.1,y21.2.2.2.1,y21.2.2.2.2.1,y21.2.2.2.2.2.1,y21.2.2.2.2.2.2.1,y21.2.2.2.2.2.2.2.1,r20.2,y21.2.2.2.2.2.2.2.2.2)).set n22 (y25.1,y25.2.1,y25.2.2.1,y25.2.2.2.1,y25.2.2.2.2.1,y25.2.2.2.2.2.1,y25.2.2.2.2.2.2.1,y25.2.2.2.2.2.2.2.1,y25.2.2.2.2.2.2.2.2.1,r24.2,y25.2.2.2.2.2.2.2.2.2.2)).set n26 (y27.1,y27.2.1,y27.2.2.1,y27.2.2.2.1,y27.2.2.2.2.1,y27.2.2.2.2.2.1,y27.2.2.2.2.2.2.1,y27.2.2.2.2.2.2.2.1,y27.2.2.2.2.2.2.2.2.1,y27.2.2.2.2.2.2.2.2.2.1,r24.1,y27.2.2.2.2.2.2.2.2.2.2.2)).set n28 (y29.1,y29.2.1,y29.2.2.1,y29.2.2.2.1,y29.2.2.2.2.1,y29.2.2.2.2.2.1,y29.2.2.2.2.2.2.1,y29.2.2.2.2.2.2.2.1,y29.2.2.2.2.2.2.2.2.1,y29.2.2.2.2.2.2.2.2.2.1,y29.2.2.2.2.2.2.2.2.2.2.1,IntKind.wrap .i64 (r24.1+(1:Int)),y29.2.2.2.2.2.2.2.2.2.2.2.2)).set n30 (y33.1,y33.2.1,y33.2.2.1,y33.2.2.2.1,y33.2.2.2.2.1,y33.2.2.2.2.2.1,y33.2.2.2.2.2.2.1,y33.2.2.2.2.2.2.2.1,y33.2.2.2.2.2.2.2.2.1,y33.2.2.2.2.2.2.2.2.2.1,y33.2.2.2.2.2.2.2.2.2.2.1,y33.2.2.2.2.2.2.2.2.2.2.2.1,r32.2,y33.2.2.2.2.2.2.2.2.2.2.2.2.2))[n34]? fun y35=>
 self1 ((((((((((((((x0.1.set n2 (x0.2.1,y3.2)).set n4 (y5.1,IntKind.wrap .i64 (x0.2.1+(1:Int)),y5.2.2)).set n6 (y7.1,y7.2.1,IntKind.wrap .i64 ((IntKind.wrap .i64 (x0.2.1+(1:Int)))+(1:Int)),y7.2.2.2)).set n8 (y9.1,y9.2.1,y9.2.2.1,IntKind.wrap .i64 ((IntKind.wrap .i64 ((IntKind.wrap .i64 (x0.2.1+(1:Int)))+(1:Int)))+(1:Int)),y9.2.2.2.2)).set n10 (y11.1,y11.2.1,y11.2.2.1,y11.2.2.2.1,IntKind.wrap .i64 ((IntKind.wrap .i64 ((IntKind.wrap .i64 ((IntKind.wrap .i64 (x0.2.1+(1:Int)))+(1:Int)))+(1:Int)))+(1:Int)),y11.2.2.2.2.2)).set n12 (y13.1,y13.2.1,y13.2.2.1,y13.2.2.2.1,y13.2.2.2.2.1,IntKind.wrap .i64 ((IntKind.wrap .i64 ((IntKind.wrap .i64 ((IntKind.wrap .i64 ((IntKind.wrap .i64 (x0.2.1+(1:Int)))+(1:Int)))+(1:Int)))+(1:Int)))+(1:Int)),y13.2.2.2.2.2.2)).set n14 (y15.1,y15.2.1,y15.2.2.1,y15.2.2.2.1,y15.2.2.2.2.1,y15.2.2.2.2.2.1,IntKind.wrap .i64 ((IntKind.wrap .i64 ((IntKind.wrap .i64 ((IntKind.wrap .i64 ((IntKind.wrap .i64 ((IntKind.wrap .i64 (x0.2.1+(1:Int)))+(1:Int)))+(1:Int)))+(1:Int)))+(1:Int)))+(1:Int)),y15.2.2.2.2.2.2.2)).set n16 (y17.1,y17.2.1,y17.2.2.1,y17.2.2.2.1,y17.2.2.2.2.1,y17.2.2.2.2.2.1,y17.2.2.2.2.2.2.1,decide ((Int.tmod (IntKind.wrap .i64 ((IntKind.wrap .i64 ((IntKind.wrap .i64 ((IntKind.wrap .i64 ((IntKind.wrap .i64 ((IntKind.wrap .i64 ((IntKind.wrap .i64 (x0.2.1+(1:Int)))+(1:Int)))+(1:Int)))+(1:Int)))+(1:Int)))+(1:Int)))+(1:Int))) (3:Int))=(0:Int)),y17.2.2.2.2.2.2.2.2)).set n18 (y21.1,y21.2.1,y21.2.2.1,y21.2.2.2.1,y21.2.2.2.2.1,y21.2.2.2.2.2.1,y21.2.2.2.2.2.2.1,y21.2.2.2.2.2.2.2.1,r20.2,y21.2.2.2.2.2.2.2.2.2)).set n22 (y25.1,y25.2.1,y25.2.2.1,y25.2.2.2.1,y25.2.2.2.2.1,y25.2.2.2.2.2.1,y25.2.2.2.2.2.2.1,y25.2.2.2.2.2.2.2.1,y25.2.2.2.2.2.2.2.2.1,r24.2,y25.2.2.2.2.2.2.2.2.2.2)).set n26 (y27.1,y27.2.1,y27.2.2.1,y27.2.2.2.1,y27.2.2.2.2.1,y27.2.2.2.2.2.1,y27.2.2.2.2.2.2.1,y27.2.2.2.2.2.2.2.1,y27.2.2.2.2.2.2.2.2.1,y27.2.2.2.2.2.2.2.2.2.1,r24.1,y27.2.2.2.2.2.2.2.2.2.2.2)).set n28 (y29.1,y29.2.1,y29.2.2.1,y29.2.2.2.1,y29.2.2.2.2.1,y29.2.2.2.2.2.1,y29.2.2.2.2.2.2.1,y29.2.2.2.2.2.2.2.1,y29.2.2.2.2.2.2.2.2.1,y29.2.2.2.2.2.2.2.2.2.1,y29.2.2.2.2.2.2.2.2.2.2.1,IntKind.wrap .i64 (r24.1+(1:Int)),y29.2.2.2.2.2.2.2.2.2.2.2.2)).set n30 (y33.1,y33.2.1,y33.2.2.1,y33.2.2.2.1,y33.2.2.2.2.1,y33.2.2.2.2.2.1,y33.2.2.2.2.2.2.1,y33.2.2.2.2.2.2.2.1,y33.2.2.2.2.2.2.2.2.1,y33.2.2.2.2.2.2.2.2.2.1,y33.2.2.2.2.2.2.2.2.2.2.1,y33.2.2.2.2.2.2.2.2.2.2.2.1,r32.2,y33.2.2.2.2.2.2.2.2.2.2.2.2.2)).set n34 (y35.1,y35.2.1,y35.2.2.1,y35.2.2.2.1,y35.2.2.2.2.1,y35.2.2.2.2.2.1,y35.2.2.2.2.2.2.1,y35.2.2.2.2.2.2.2.1,y35.2.2.2.2.2.2.2.2.1,y35.2.2.2.2.2.2.2.2.2.1,y35.2.2.2.2.2.2.2.2.2.2.1,y35.2.2.2.2.2.2.2.2.2.2.2.1,y35.2.2.2.2.2.2.2.2.2.2.2.2.1,r32.1),IntKind.wrap .i64 (r32.1+(1:Int)),IntKind.wrap .i64 (x0.2.2+(1:Int)))
 else some (x0.1,x0.2.1)) (a0,a1,(0:Int)):Option ((List (Int × Int × Int × Int × Int × Int × Int × Bool × (List (Int × Int)) × (List (Int)) × Int × Int × (List (Int × Int)) × Int)) × Int)) fun x36=>
 some (x36.2,x36.1):=by kernel_rfl
def c_lmarkLedgeS:TC:=
 (.seq (.rg [o1 4 (kL 0)])
 (.seq (.join [⟨0,Ty11,false⟩,⟨1,[.i .i64],false⟩] 4398046511075 none (.seq (.rg [o1 5 (kL 0)])
 (.block 0 (.loop [⟨0,Ty11,false⟩,⟨1,[.i .i64],false⟩,⟨5,[.i .i64],false⟩] 4398046511075
 (.seq (.seq (.rg [oc 6 5,
 o6 7 0,
 o1 8 (.len 7),
 o1 9 (.data (.bin .lss) [.t 6,.t 8])])
 (.cond (.t 9)
 .skip
 (.exit 0)))
 (.seq (.block 1 (.seq (.rg [o6 12 0,
 oc 13 5,
 oc 14 1,
 o1 15 (.index 12 (.t 13)),
 o1 16 (.idx (.t 15)),
 o4 1 [0,7,12] (.store 0 [(0,4)] 0 (.t 16) (.t 14))])
 (.seq (.rg [oc 17 1,
 o1 18 (.data (.bin .add) [.t 17,kD 1]),
 oc 1 18])
 (.seq (.rg [o6 19 0,
 oc 20 5,
 oc 21 1,
 o1 22 (.index 19 (.t 20)),
 o1 23 (.idx (.t 22)),
 o4 1 [0,19] (.store 0 [(0,4)] 1 (.t 23) (.t 21))])
 (.seq (.rg [oc 24 1,
 o1 25 (.data (.bin .add) [.t 24,kD 1]),
 oc 1 25])
 (.seq (.rg [o6 26 0,
 oc 27 5,
 oc 28 1,
 o1 29 (.index 26 (.t 27)),
 o1 30 (.idx (.t 29)),
 o4 1 [0,26] (.store 0 [(0,4)] 2 (.t 30) (.t 28))])
 (.seq (.rg [oc 31 1,
 o1 32 (.data (.bin .add) [.t 31,kD 1]),
 oc 1 32])
 (.seq (.rg [o6 33 0,
 oc 34 5,
 oc 35 1,
 o1 36 (.data (.bin .rem) [.t 35,kD 3]),
 o1 37 (.data (.bin .eql) [.t 36,kD 0]),
 o1 38 (.index 33 (.t 34)),
 o1 39 (.idx (.t 38)),
 o4 1 [0,33] (.store 0 [(0,4)] 3 (.t 39) (.t 37))])
 (.rg [oc 40 1,
 o1 41 (.data (.bin .add) [.t 40,kD 1]),
 oc 1 41])))))))))
 (.rg [oc 10 5,
 o1 11 (.data (.bin .add) [.t 10,kD 1]),
 oc 5 11])))))))
 (.seq (.rg [oc 42 1,
 oc 4 42])
 .ret)))
def s_lmarkLedgeS:Sig:=⟨[.mt false Ct8,.rd false [.d]],(.one false [.d])⟩
def E_lmarkLedgeS:TEnv:=envOf []
def f_lmarkLedgeS (n:Nat):(List (Int × Int × Int × Bool)) × Int->Option ((Int) × List (Int × Int × Int × Bool)):=runFn n E_lmarkLedgeS c_lmarkLedgeS [Ty11,[.i .i64]] [.i .i64] Ty11 [4] (.mt 0 0 0)
def g_lmarkLedgeS:=f_lmarkLedgeS BIG
def p_lmarkLedgeS:TSp:=⟨s_lmarkLedgeS,[Ty11,[.i .i64]],[.i .i64],Ty11,Ou.j (.mt 0 0 0),g_lmarkLedgeS⟩
theorem k_lmarkLedgeS:chkW PG E_lmarkLedgeS 96 s_lmarkLedgeS (c_lmarkLedgeS.ht 43) (.mt 0 0 0)=some (c_lmarkLedgeS.wc E_lmarkLedgeS,[4]):=by kernel_rfl
theorem ok_lmarkLedgeS:p_lmarkLedgeS.Ok PG 96:=mkOk (env_nil PG) k_lmarkLedgeS (by kernel_rfl)
theorem e_lmarkLedgeS (n) (a0) (a1):f_lmarkLedgeS n (a0,a1) =
 Option.bind (loopT n (X:=(List (Int × Int × Int × Bool)) × Int × Int) (B:=(List (Int × Int × Int × Bool)) × Int) (fun self1 x0=>
 bif decide (x0.2.2<(x0.1.length:Int)) then
 bnd x0.1.length x0.2.2 fun n2=>
 Option.bind x0.1[n2]? fun y3=>
 bnd (x0.1.set n2 (x0.2.1,y3.2)).length x0.2.2 fun n4=>
 Option.bind (x0.1.set n2 (x0.2.1,y3.2))[n4]? fun y5=>
 bnd ((x0.1.set n2 (x0.2.1,y3.2)).set n4 (y5.1,IntKind.wrap .i64 (x0.2.1+(1:Int)),y5.2.2)).length x0.2.2 fun n6=>
 Option.bind ((x0.1.set n2 (x0.2.1,y3.2)).set n4 (y5.1,IntKind.wrap .i64 (x0.2.1+(1:Int)),y5.2.2))[n6]? fun y7=>
 bif decide ((3:Int)=0) then
 none
 else bnd (((x0.1.set n2 (x0.2.1,y3.2)).set n4 (y5.1,IntKind.wrap .i64 (x0.2.1+(1:Int)),y5.2.2)).set n6 (y7.1,y7.2.1,IntKind.wrap .i64 ((IntKind.wrap .i64 (x0.2.1+(1:Int)))+(1:Int)),y7.2.2.2)).length x0.2.2 fun n8=>
 Option.bind (((x0.1.set n2 (x0.2.1,y3.2)).set n4 (y5.1,IntKind.wrap .i64 (x0.2.1+(1:Int)),y5.2.2)).set n6 (y7.1,y7.2.1,IntKind.wrap .i64 ((IntKind.wrap .i64 (x0.2.1+(1:Int)))+(1:Int)),y7.2.2.2))[n8]? fun y9=>
 self1 ((((x0.1.set n2 (x0.2.1,y3.2)).set n4 (y5.1,IntKind.wrap .i64 (x0.2.1+(1:Int)),y5.2.2)).set n6 (y7.1,y7.2.1,IntKind.wrap .i64 ((IntKind.wrap .i64 (x0.2.1+(1:Int)))+(1:Int)),y7.2.2.2)).set n8 (y9.1,y9.2.1,y9.2.2.1,decide ((Int.tmod (IntKind.wrap .i64 ((IntKind.wrap .i64 ((IntKind.wrap .i64 (x0.2.1+(1:Int)))+(1:Int)))+(1:Int))) (3:Int))=(0:Int))),IntKind.wrap .i64 ((IntKind.wrap .i64 ((IntKind.wrap .i64 ((IntKind.wrap .i64 (x0.2.1+(1:Int)))+(1:Int)))+(1:Int)))+(1:Int)),IntKind.wrap .i64 (x0.2.2+(1:Int)))
 else some (x0.1,x0.2.1)) (a0,a1,(0:Int)):Option ((List (Int × Int × Int × Bool)) × Int)) fun x10=>
 some (x10.2,x10.1):=by kernel_rfl
def c_lmarkWeb:TC:=
 (.seq (.rg [o5 (.a (.t 0)) 2 0,
 o1 4 (kL 0)])
 (.seq (.rg [oi 5,
 o1 6 (.load 2 [] 1 (.t 5) 1 true),
 oc 7 1,
 ⟨false,[],[],.call 2 96 [.t 6,.t 7] (.mt 2 [] 1 6 0),[8,2,6],(some 8),none⟩,
 oc 1 8])
 (.seq (.rg [oc 9 1,
 oc 4 9])
 .ret)))
def s_lmarkWeb:Sig:=⟨[.mt true Ct7,.rd false [.d]],(.one false [.d])⟩
def E_lmarkWeb:TEnv:=envOf [(96,p_lmarkLedgeS)]
def f_lmarkWeb (n:Nat):(Int × List (Int × Int × Int × Bool)) × Int->Option ((Int) × Int × List (Int × Int × Int × Bool)):=runFn n E_lmarkWeb c_lmarkWeb [Ty9,[.i .i64]] [.i .i64] Ty9 [4] (.mt 0 2 0)
def g_lmarkWeb:=f_lmarkWeb BIG
def p_lmarkWeb:TSp:=⟨s_lmarkWeb,[Ty9,[.i .i64]],[.i .i64],Ty9,Ou.j (.mt 0 2 0),g_lmarkWeb⟩
theorem k_lmarkWeb:chkW PG E_lmarkWeb 50 s_lmarkWeb (c_lmarkWeb.ht 10) (.mt 0 2 0)=some (c_lmarkWeb.wc E_lmarkWeb,[4]):=by kernel_rfl
theorem ok_lmarkWeb:p_lmarkWeb.Ok PG 50:=mkOk (env_cons ok_lmarkLedgeS (env_nil PG)) k_lmarkWeb (by kernel_rfl)
theorem e_lmarkWeb (n) (a0) (a1):f_lmarkWeb n (a0,a1) =
 Option.bind (g_lmarkLedgeS (a0.2,a1)) fun r0=>
 some (r0.1,(a0.1,r0.2)):=by kernel_rfl
def c_lmarkAnswer:TC:=
 (.seq (.rg [o5 (.a (.t 0)) 2 0,
 o1 4 (kL 0)])
 (.seq (.rg [oi 5,
 o1 6 (.load 2 [] 2 (.t 5) 1 true),
 oc 7 1,
 ⟨false,[],[],.call 2 51 [.t 6,.t 7] (.mt 2 [] 2 6 0),[8,2,6],(some 8),none⟩,
 oc 1 8])
 (.seq (.rg [oi 9,
 o1 10 (.load 2 [] 3 (.t 9) 1 true),
 oc 11 1,
 ⟨false,[],[],.call 2 52 [.t 10,.t 11] (.mt 2 [] 3 10 0),[12,2,10],(some 12),none⟩,
 oc 1 12])
 (.seq (.rg [oc 13 1,
 oc 4 13])
 .ret))))
def s_lmarkAnswer:Sig:=⟨[.mt true Ct4,.rd false [.d]],(.one false [.d])⟩
def E_lmarkAnswer:TEnv:=envOf [(51,p_lmarkEdgeS),(52,p_lmarkIntS)]
def f_lmarkAnswer (n:Nat):(Int × Bool × List (Int × Int) × List (Int)) × Int->Option ((Int) × Int × Bool × List (Int × Int) × List (Int)):=runFn n E_lmarkAnswer c_lmarkAnswer [Ty6,[.i .i64]] [.i .i64] Ty6 [4] (.mt 0 2 0)
def g_lmarkAnswer:=f_lmarkAnswer BIG
def p_lmarkAnswer:TSp:=⟨s_lmarkAnswer,[Ty6,[.i .i64]],[.i .i64],Ty6,Ou.j (.mt 0 2 0),g_lmarkAnswer⟩
theorem k_lmarkAnswer:chkW PG E_lmarkAnswer 16 s_lmarkAnswer (c_lmarkAnswer.ht 14) (.mt 0 2 0)=some (c_lmarkAnswer.wc E_lmarkAnswer,[4]):=by kernel_rfl
theorem ok_lmarkAnswer:p_lmarkAnswer.Ok PG 16:=mkOk (env_cons ok_lmarkEdgeS (env_cons ok_lmarkIntS (env_nil PG))) k_lmarkAnswer (by kernel_rfl)
theorem e_lmarkAnswer (n) (a0) (a1):f_lmarkAnswer n (a0,a1) =
 Option.bind (g_lmarkEdgeS (a0.2.2.1,a1)) fun r0=>
 Option.bind (g_lmarkIntS (a0.2.2.2,r0.1)) fun r1=>
 some (r1.1,(a0.1,a0.2.1,r0.2,r1.2)):=by kernel_rfl
def c_lmarkShard:TC:=
 (.seq (.rg [o5 (.a (.t 0)) 2 0,
 o1 4 (kL 0)])
 (.seq (.rg [oi 5,
 o1 6 (.load 2 [] 1 (.t 5) 2 true),
 oc 7 1,
 ⟨false,[],[],.call 2 50 [.t 6,.t 7] (.mt 2 [] 1 6 0),[8,2,6],(some 8),none⟩,
 oc 1 8])
 (.seq (.rg [oi 9,
 o1 10 (.load 2 [] 3 (.t 9) 4 true),
 oc 11 1,
 ⟨false,[],[],.call 2 16 [.t 10,.t 11] (.mt 2 [] 3 10 0),[12,2,10],(some 12),none⟩,
 oc 1 12])
 (.seq (.rg [oc 13 1,
 oc 4 13])
 .ret))))
def s_lmarkShard:Sig:=⟨[.mt true Ct3,.rd false [.d]],(.one false [.d])⟩
def E_lmarkShard:TEnv:=envOf [(50,p_lmarkWeb),(16,p_lmarkAnswer)]
def f_lmarkShard (n:Nat):(Int × Int × List (Int × Int × Int × Bool) × Int × Bool × List (Int × Int) × List (Int)) × Int->Option ((Int) × Int × Int × List (Int × Int × Int × Bool) × Int × Bool × List (Int × Int) × List (Int)):=runFn n E_lmarkShard c_lmarkShard [Ty4,[.i .i64]] [.i .i64] Ty4 [4] (.mt 0 2 0)
def g_lmarkShard:=f_lmarkShard BIG
def p_lmarkShard:TSp:=⟨s_lmarkShard,[Ty4,[.i .i64]],[.i .i64],Ty4,Ou.j (.mt 0 2 0),g_lmarkShard⟩
theorem k_lmarkShard:chkW PG E_lmarkShard 14 s_lmarkShard (c_lmarkShard.ht 14) (.mt 0 2 0)=some (c_lmarkShard.wc E_lmarkShard,[4]):=by kernel_rfl
theorem ok_lmarkShard:p_lmarkShard.Ok PG 14:=mkOk (env_cons ok_lmarkWeb (env_cons ok_lmarkAnswer (env_nil PG))) k_lmarkShard (by kernel_rfl)
theorem e_lmarkShard (n) (a0) (a1):f_lmarkShard n (a0,a1) =
 Option.bind (g_lmarkWeb ((a0.2.1,a0.2.2.1),a1)) fun r0=>
 Option.bind (g_lmarkAnswer (a0.2.2.2,r0.1)) fun r1=>
 some (r1.1,(a0.1,a0.2.1,r0.2.2,a0.2.2.2.1,a0.2.2.2.2.1,r1.2.2.2)):=by kernel_rfl
def c_lheldLedgeS:TC:=
 (.seq (.rg [o1 4 (kL 0)])
 (.seq (.join [⟨1,[.i .i64],false⟩] 1125899906842610 (some [⟨4,[.i .i64],false⟩]) (.seq (.rg [o1 5 (kL 0)])
 (.block 0 (.loop [⟨1,[.i .i64],false⟩,⟨5,[.i .i64],false⟩] 1125899906842610
 (.seq (.seq (.rg [oc 6 5,
 oc 7 0,
 o1 8 (.len 7),
 o1 9 (.data (.bin .lss) [.t 6,.t 8])])
 (.cond (.t 9)
 .skip
 (.exit 0)))
 (.seq (.block 1 (.seq (.seq (.rg [oc 12 0,
 oc 13 5,
 o1 14 (.index 12 (.t 13)),
 o1 15 (.idx (.t 14)),
 o1 16 (.load 12 [(0,4)] 0 (.t 15) 1 false),
 oc 17 1,
 o1 18 (.data (.bin .neq) [.t 16,.t 17])])
 (.cond (.t 18)
 (.seq (.rg [o1 4 (kL (-1))])
 .ret)
 .skip))
 (.seq (.rg [oc 19 1,
 o1 20 (.data (.bin .add) [.t 19,kD 1]),
 oc 1 20])
 (.seq (.seq (.rg [oc 21 0,
 oc 22 5,
 o1 23 (.index 21 (.t 22)),
 o1 24 (.idx (.t 23)),
 o1 25 (.load 21 [(0,4)] 1 (.t 24) 1 false),
 oc 26 1,
 o1 27 (.data (.bin .neq) [.t 25,.t 26])])
 (.cond (.t 27)
 (.seq (.rg [o1 4 (kL (-1))])
 .ret)
 .skip))
 (.seq (.rg [oc 28 1,
 o1 29 (.data (.bin .add) [.t 28,kD 1]),
 oc 1 29])
 (.seq (.seq (.rg [oc 30 0,
 oc 31 5,
 o1 32 (.index 30 (.t 31)),
 o1 33 (.idx (.t 32)),
 o1 34 (.load 30 [(0,4)] 2 (.t 33) 1 false),
 oc 35 1,
 o1 36 (.data (.bin .neq) [.t 34,.t 35])])
 (.cond (.t 36)
 (.seq (.rg [o1 4 (kL (-1))])
 .ret)
 .skip))
 (.seq (.rg [oc 37 1,
 o1 38 (.data (.bin .add) [.t 37,kD 1]),
 oc 1 38])
 (.seq (.seq (.rg [oc 39 0,
 oc 40 5,
 o1 41 (.index 39 (.t 40)),
 o1 42 (.idx (.t 41)),
 o1 43 (.load 39 [(0,4)] 3 (.t 42) 1 false),
 oc 44 1,
 o1 45 (.data (.bin .rem) [.t 44,kD 3]),
 o1 46 (.data (.bin .eql) [.t 45,kD 0]),
 o1 47 (.data (.beq true) [.t 43,.t 46])])
 (.cond (.t 47)
 (.seq (.rg [o1 4 (kL (-1))])
 .ret)
 .skip))
 (.rg [oc 48 1,
 o1 49 (.data (.bin .add) [.t 48,kD 1]),
 oc 1 49])))))))))
 (.rg [oc 10 5,
 o1 11 (.data (.bin .add) [.t 10,kD 1]),
 oc 5 11])))))))
 (.seq (.rg [oc 50 1,
 oc 4 50])
 .ret)))
def s_lheldLedgeS:Sig:=⟨[.rd false Ct8,.rd false [.d]],(.one false [.d])⟩
def E_lheldLedgeS:TEnv:=envOf []
def f_lheldLedgeS (n:Nat):(List (Int × Int × Int × Bool)) × Int->Option ((Int) × Unit):=runFn n E_lheldLedgeS c_lheldLedgeS [Ty11,[.i .i64]] [.i .i64] [] [4] .no
def g_lheldLedgeS:=f_lheldLedgeS BIG
def p_lheldLedgeS:TSp:=⟨s_lheldLedgeS,[Ty11,[.i .i64]],[.i .i64],[],Ou.j .no,g_lheldLedgeS⟩
theorem k_lheldLedgeS:chkW PG E_lheldLedgeS 97 s_lheldLedgeS (c_lheldLedgeS.ht 51) .no=some (c_lheldLedgeS.wc E_lheldLedgeS,[4]):=by kernel_rfl
theorem ok_lheldLedgeS:p_lheldLedgeS.Ok PG 97:=mkOk (env_nil PG) k_lheldLedgeS (by kernel_rfl)
theorem e_lheldLedgeS (n) (a0) (a1):f_lheldLedgeS n (a0,a1) =
 Option.bind (loopT n (X:=Int × Int) (B:=(Int) ⊕ (Int)) (fun self1 x0=>
  bif decide (x0.2<(a0.length:Int)) then
   bnd a0.length x0.2 fun n2=>
   Option.bind a0[n2]? fun y3=>
   bif !decide (y3.1=x0.1) then
    some (Sum.inr (-1:Int))
   else bnd a0.length x0.2 fun n4=>
   Option.bind a0[n4]? fun y5=>
   bif !decide (y5.2.1=(IntKind.wrap .i64 (x0.1+(1:Int)))) then
    some (Sum.inr (-1:Int))
   else bnd a0.length x0.2 fun n6=>
   Option.bind a0[n6]? fun y7=>
   bif !decide (y7.2.2.1=(IntKind.wrap .i64 ((IntKind.wrap .i64 (x0.1+(1:Int)))+(1:Int)))) then
    some (Sum.inr (-1:Int))
   else bnd a0.length x0.2 fun n8=>
   Option.bind a0[n8]? fun y9=>
   bif decide ((3:Int)=0) then
    none
   else bif !(y9.2.2.2 == (decide ((Int.tmod (IntKind.wrap .i64 ((IntKind.wrap .i64 ((IntKind.wrap .i64 (x0.1+(1:Int)))+(1:Int)))+(1:Int))) (3:Int))=(0:Int)))) then
    some (Sum.inr (-1:Int))
   else self1 (IntKind.wrap .i64 ((IntKind.wrap .i64 ((IntKind.wrap .i64 ((IntKind.wrap .i64 (x0.1+(1:Int)))+(1:Int)))+(1:Int)))+(1:Int)),IntKind.wrap .i64 (x0.2+(1:Int)))
  else some (Sum.inl x0.1)) (a1,(0:Int)):Option ((Int) ⊕ (Int))) fun y=>match y with
 | .inl x10=>
  some (x10,())
 | .inr x10=>
  some (x10,()):=by kernel_rfl
def c_lheldWeb:TC:=
 (.seq (.rg [o1 2 (.a (.t 0)),
 o1 4 (kL 0)])
 (.seq (.rg [oi 5,
 o1 6 (.load 2 [] 1 (.t 5) 1 false),
 oc 7 1,
 o3 8 97 [.t 6,.t 7],
 oc 1 8])
 (.seq (.seq (.rg [oc 9 1,
 o1 10 (.data (.bin .lss) [.t 9,kD 0])])
 (.cond (.t 10)
 (.seq (.rg [o1 4 (kL (-1))])
 .ret)
 .skip))
 (.seq (.rg [oc 11 1,
 oc 4 11])
 .ret))))
def s_lheldWeb:Sig:=⟨[.rd true Ct7,.rd false [.d]],(.one false [.d])⟩
def E_lheldWeb:TEnv:=envOf [(97,p_lheldLedgeS)]
def f_lheldWeb (n:Nat):(Int × List (Int × Int × Int × Bool)) × Int->Option ((Int) × Unit):=runFn n E_lheldWeb c_lheldWeb [Ty9,[.i .i64]] [.i .i64] [] [4] .no
def g_lheldWeb:=f_lheldWeb BIG
def p_lheldWeb:TSp:=⟨s_lheldWeb,[Ty9,[.i .i64]],[.i .i64],[],Ou.j .no,g_lheldWeb⟩
theorem k_lheldWeb:chkW PG E_lheldWeb 53 s_lheldWeb (c_lheldWeb.ht 12) .no=some (c_lheldWeb.wc E_lheldWeb,[4]):=by kernel_rfl
theorem ok_lheldWeb:p_lheldWeb.Ok PG 53:=mkOk (env_cons ok_lheldLedgeS (env_nil PG)) k_lheldWeb (by kernel_rfl)
theorem e_lheldWeb (n) (a0) (a1):f_lheldWeb n (a0,a1) =
 Option.bind (g_lheldLedgeS (a0.2,a1)) fun r0=>
 bif decide (r0.1<(0:Int)) then
 some ((-1:Int),())
 else some (r0.1,()):=by kernel_rfl
def c_lheldEdgeS:TC:=
 (.seq (.rg [o1 4 (kL 0)])
 (.seq (.join [⟨1,[.i .i64],false⟩] 1073741810 (some [⟨4,[.i .i64],false⟩]) (.seq (.rg [o1 5 (kL 0)])
 (.block 0 (.loop [⟨1,[.i .i64],false⟩,⟨5,[.i .i64],false⟩] 1073741810
 (.seq (.seq (.rg [oc 6 5,
 oc 7 0,
 o1 8 (.len 7),
 o1 9 (.data (.bin .lss) [.t 6,.t 8])])
 (.cond (.t 9)
 .skip
 (.exit 0)))
 (.seq (.block 1 (.seq (.seq (.rg [oc 12 0,
 oc 13 5,
 o1 14 (.index 12 (.t 13)),
 o1 15 (.idx (.t 14)),
 o1 16 (.load 12 [(0,2)] 0 (.t 15) 1 false),
 oc 17 1,
 o1 18 (.data (.bin .neq) [.t 16,.t 17])])
 (.cond (.t 18)
 (.seq (.rg [o1 4 (kL (-1))])
 .ret)
 .skip))
 (.seq (.rg [oc 19 1,
 o1 20 (.data (.bin .add) [.t 19,kD 1]),
 oc 1 20])
 (.seq (.seq (.rg [oc 21 0,
 oc 22 5,
 o1 23 (.index 21 (.t 22)),
 o1 24 (.idx (.t 23)),
 o1 25 (.load 21 [(0,2)] 1 (.t 24) 1 false),
 oc 26 1,
 o1 27 (.data (.bin .neq) [.t 25,.t 26])])
 (.cond (.t 27)
 (.seq (.rg [o1 4 (kL (-1))])
 .ret)
 .skip))
 (.rg [oc 28 1,
 o1 29 (.data (.bin .add) [.t 28,kD 1]),
 oc 1 29])))))
 (.rg [oc 10 5,
 o1 11 (.data (.bin .add) [.t 10,kD 1]),
 oc 5 11])))))))
 (.seq (.rg [oc 30 1,
 oc 4 30])
 .ret)))
def s_lheldEdgeS:Sig:=⟨[.rd false Ct10,.rd false [.d]],(.one false [.d])⟩
def E_lheldEdgeS:TEnv:=envOf []
def f_lheldEdgeS (n:Nat):(List (Int × Int)) × Int->Option ((Int) × Unit):=runFn n E_lheldEdgeS c_lheldEdgeS [[.sl [.i .i64,.i .i64]],[.i .i64]] [.i .i64] [] [4] .no
def g_lheldEdgeS:=f_lheldEdgeS BIG
def p_lheldEdgeS:TSp:=⟨s_lheldEdgeS,[[.sl [.i .i64,.i .i64]],[.i .i64]],[.i .i64],[],Ou.j .no,g_lheldEdgeS⟩
theorem k_lheldEdgeS:chkW PG E_lheldEdgeS 54 s_lheldEdgeS (c_lheldEdgeS.ht 31) .no=some (c_lheldEdgeS.wc E_lheldEdgeS,[4]):=by kernel_rfl
theorem ok_lheldEdgeS:p_lheldEdgeS.Ok PG 54:=mkOk (env_nil PG) k_lheldEdgeS (by kernel_rfl)
theorem e_lheldEdgeS (n) (a0) (a1):f_lheldEdgeS n (a0,a1) =
 Option.bind (loopT n (X:=Int × Int) (B:=(Int) ⊕ (Int)) (fun self1 x0=>
  bif decide (x0.2<(a0.length:Int)) then
   bnd a0.length x0.2 fun n2=>
   Option.bind a0[n2]? fun y3=>
   bif !decide (y3.1=x0.1) then
    some (Sum.inr (-1:Int))
   else bnd a0.length x0.2 fun n4=>
   Option.bind a0[n4]? fun y5=>
   bif !decide (y5.2=(IntKind.wrap .i64 (x0.1+(1:Int)))) then
    some (Sum.inr (-1:Int))
   else self1 (IntKind.wrap .i64 ((IntKind.wrap .i64 (x0.1+(1:Int)))+(1:Int)),IntKind.wrap .i64 (x0.2+(1:Int)))
  else some (Sum.inl x0.1)) (a1,(0:Int)):Option ((Int) ⊕ (Int))) fun y=>match y with
 | .inl x6=>
  some (x6,())
 | .inr x6=>
  some (x6,()):=by kernel_rfl
def c_lheldIntS:TC:=
 (.seq (.rg [o1 4 (kL 0)])
 (.seq (.join [⟨1,[.i .i64],false⟩] 1048562 (some [⟨4,[.i .i64],false⟩]) (.seq (.rg [o1 5 (kL 0)])
 (.block 0 (.loop [⟨1,[.i .i64],false⟩,⟨5,[.i .i64],false⟩] 1048562
 (.seq (.seq (.rg [oc 6 5,
 oc 7 0,
 o1 8 (.len 7),
 o1 9 (.data (.bin .lss) [.t 6,.t 8])])
 (.cond (.t 9)
 .skip
 (.exit 0)))
 (.seq (.block 1 (.seq (.seq (.rg [oc 12 0,
 oc 13 5,
 o1 14 (.index 12 (.t 13)),
 o1 15 (.load 12 [(0,1)] 0 (.t 14) 1 false),
 oc 16 1,
 o1 17 (.data (.bin .neq) [.t 15,.t 16])])
 (.cond (.t 17)
 (.seq (.rg [o1 4 (kL (-1))])
 .ret)
 .skip))
 (.rg [oc 18 1,
 o1 19 (.data (.bin .add) [.t 18,kD 1]),
 oc 1 19])))
 (.rg [oc 10 5,
 o1 11 (.data (.bin .add) [.t 10,kD 1]),
 oc 5 11])))))))
 (.seq (.rg [oc 20 1,
 oc 4 20])
 .ret)))
def s_lheldIntS:Sig:=⟨[.rd false Ct11,.rd false [.d]],(.one false [.d])⟩
def E_lheldIntS:TEnv:=envOf []
def f_lheldIntS (n:Nat):List (Int) × Int->Option ((Int) × Unit):=runFn n E_lheldIntS c_lheldIntS [[.sl [.i .i64]],[.i .i64]] [.i .i64] [] [4] .no
def g_lheldIntS:=f_lheldIntS BIG
def p_lheldIntS:TSp:=⟨s_lheldIntS,[[.sl [.i .i64]],[.i .i64]],[.i .i64],[],Ou.j .no,g_lheldIntS⟩
theorem k_lheldIntS:chkW PG E_lheldIntS 55 s_lheldIntS (c_lheldIntS.ht 21) .no=some (c_lheldIntS.wc E_lheldIntS,[4]):=by kernel_rfl
theorem ok_lheldIntS:p_lheldIntS.Ok PG 55:=mkOk (env_nil PG) k_lheldIntS (by kernel_rfl)
theorem e_lheldIntS (n) (a0) (a1):f_lheldIntS n (a0,a1) =
 Option.bind (loopT n (X:=Int × Int) (B:=(Int) ⊕ (Int)) (fun self1 x0=>
  bif decide (x0.2<(a0.length:Int)) then
   bnd a0.length x0.2 fun n2=>
   Option.bind a0[n2]? fun y3=>
   bif !decide (y3=x0.1) then
    some (Sum.inr (-1:Int))
   else self1 (IntKind.wrap .i64 (x0.1+(1:Int)),IntKind.wrap .i64 (x0.2+(1:Int)))
  else some (Sum.inl x0.1)) (a1,(0:Int)):Option ((Int) ⊕ (Int))) fun y=>match y with
 | .inl x4=>
  some (x4,())
 | .inr x4=>
  some (x4,()):=by kernel_rfl
def c_lheldAnswer:TC:=
 (.seq (.rg [o1 2 (.a (.t 0)),
 o1 4 (kL 0)])
 (.seq (.rg [oi 5,
 o1 6 (.load 2 [] 2 (.t 5) 1 false),
 oc 7 1,
 o3 8 54 [.t 6,.t 7],
 oc 1 8])
 (.seq (.seq (.rg [oc 9 1,
 o1 10 (.data (.bin .lss) [.t 9,kD 0])])
 (.cond (.t 10)
 (.seq (.rg [o1 4 (kL (-1))])
 .ret)
 .skip))
 (.seq (.rg [oi 11,
 o1 12 (.load 2 [] 3 (.t 11) 1 false),
 oc 13 1,
 o3 14 55 [.t 12,.t 13],
 oc 1 14])
 (.seq (.seq (.rg [oc 15 1,
 o1 16 (.data (.bin .lss) [.t 15,kD 0])])
 (.cond (.t 16)
 (.seq (.rg [o1 4 (kL (-1))])
 .ret)
 .skip))
 (.seq (.rg [oc 17 1,
 oc 4 17])
 .ret))))))
def s_lheldAnswer:Sig:=⟨[.rd true Ct4,.rd false [.d]],(.one false [.d])⟩
def E_lheldAnswer:TEnv:=envOf [(54,p_lheldEdgeS),(55,p_lheldIntS)]
def f_lheldAnswer (n:Nat):(Int × Bool × List (Int × Int) × List (Int)) × Int->Option ((Int) × Unit):=runFn n E_lheldAnswer c_lheldAnswer [Ty6,[.i .i64]] [.i .i64] [] [4] .no
def g_lheldAnswer:=f_lheldAnswer BIG
def p_lheldAnswer:TSp:=⟨s_lheldAnswer,[Ty6,[.i .i64]],[.i .i64],[],Ou.j .no,g_lheldAnswer⟩
theorem k_lheldAnswer:chkW PG E_lheldAnswer 18 s_lheldAnswer (c_lheldAnswer.ht 18) .no=some (c_lheldAnswer.wc E_lheldAnswer,[4]):=by kernel_rfl
theorem ok_lheldAnswer:p_lheldAnswer.Ok PG 18:=mkOk (env_cons ok_lheldEdgeS (env_cons ok_lheldIntS (env_nil PG))) k_lheldAnswer (by kernel_rfl)
theorem e_lheldAnswer (n) (a0) (a1):f_lheldAnswer n (a0,a1) =
 Option.bind (g_lheldEdgeS (a0.2.2.1,a1)) fun r0=>
 bif decide (r0.1<(0:Int)) then
 some ((-1:Int),())
 else Option.bind (g_lheldIntS (a0.2.2.2,r0.1)) fun r1=>
 bif decide (r1.1<(0:Int)) then
 some ((-1:Int),())
 else some (r1.1,()):=by kernel_rfl
def c_lheldShard:TC:=
 (.seq (.rg [o1 2 (.a (.t 0)),
 o1 4 (kL 0)])
 (.seq (.rg [oi 5,
 o1 6 (.load 2 [] 1 (.t 5) 2 false),
 oc 7 1,
 o3 8 53 [.t 6,.t 7],
 oc 1 8])
 (.seq (.seq (.rg [oc 9 1,
 o1 10 (.data (.bin .lss) [.t 9,kD 0])])
 (.cond (.t 10)
 (.seq (.rg [o1 4 (kL (-1))])
 .ret)
 .skip))
 (.seq (.rg [oi 11,
 o1 12 (.load 2 [] 3 (.t 11) 4 false),
 oc 13 1,
 o3 14 18 [.t 12,.t 13],
 oc 1 14])
 (.seq (.seq (.rg [oc 15 1,
 o1 16 (.data (.bin .lss) [.t 15,kD 0])])
 (.cond (.t 16)
 (.seq (.rg [o1 4 (kL (-1))])
 .ret)
 .skip))
 (.seq (.rg [oc 17 1,
 oc 4 17])
 .ret))))))
def s_lheldShard:Sig:=⟨[.rd true Ct3,.rd false [.d]],(.one false [.d])⟩
def E_lheldShard:TEnv:=envOf [(53,p_lheldWeb),(18,p_lheldAnswer)]
def f_lheldShard (n:Nat):(Int × Int × List (Int × Int × Int × Bool) × Int × Bool × List (Int × Int) × List (Int)) × Int->Option ((Int) × Unit):=runFn n E_lheldShard c_lheldShard [Ty4,[.i .i64]] [.i .i64] [] [4] .no
def g_lheldShard:=f_lheldShard BIG
def p_lheldShard:TSp:=⟨s_lheldShard,[Ty4,[.i .i64]],[.i .i64],[],Ou.j .no,g_lheldShard⟩
theorem k_lheldShard:chkW PG E_lheldShard 17 s_lheldShard (c_lheldShard.ht 18) .no=some (c_lheldShard.wc E_lheldShard,[4]):=by kernel_rfl
theorem ok_lheldShard:p_lheldShard.Ok PG 17:=mkOk (env_cons ok_lheldWeb (env_cons ok_lheldAnswer (env_nil PG))) k_lheldShard (by kernel_rfl)
theorem e_lheldShard (n) (a0) (a1):f_lheldShard n (a0,a1) =
 Option.bind (g_lheldWeb ((a0.2.1,a0.2.2.1),a1)) fun r0=>
 bif decide (r0.1<(0:Int)) then
 some ((-1:Int),())
 else Option.bind (g_lheldAnswer (a0.2.2.2,r0.1)) fun r1=>
 bif decide (r1.1<(0:Int)) then
 some ((-1:Int),())
 else some (r1.1,()):=by kernel_rfl
def c_lFnExactShardFrom:TC:=
 (.seq (.rg [o1 6 (.lit [.b] [.bool false])])
 (.seq (.rg [o1 7 (kL 1048576)])
 (.seq (.rg [oc 18 2,
 oc 19 7,
 o3 20 19 [.t 18,.t 19],
 oc 7 20])
 (.seq (.seq (.rg [oc 21 7,
 o1 22 (.data (.bin .lss) [.t 21,kD 0])])
 (.cond (.t 22)
 (.seq (.rg [o1 6 (.lit [.b] [.bool true])])
 .ret)
 .skip))
 (.seq (.rg [oc 24 0,
 oc 25 1,
 oc 26 2,
 o3 27 21 [.t 26],
 o3 28 20 [.t 24,.t 25,.t 27],
 o5 (.copy 28) 23 28,
 o5 (.ext 23 0 7) 29 23,
 o1 30 (.ext 23 7 1),
 o5 (.a (.c Ty4 [kV 0,kV 0,.slice none 0 0,kV 0,.bool false,.slice none 0 0,.slice none 0 0])) 8 1000000009,
 o4 2 [8,29] (.store 8 [] 0 .nil (.t 29)),
 oc 9 30])
 (.seq (.rg [oc 31 2,
 o3 32 21 [.t 31],
 o5 (.copy 32) 10 32])
 (.seq (.rg [oc 34 0,
 oc 35 1,
 o6 36 10,
 o3 37 22 [.t 34,.t 35,.t 36],
 o5 (.copy 37) 33 37,
 o5 (.ext 33 0 7) 38 33,
 o1 39 (.ext 33 7 1),
 o5 (.a (.c Ty4 [kV 0,kV 0,.slice none 0 0,kV 0,.bool false,.slice none 0 0,.slice none 0 0])) 11 1000000012,
 o4 2 [11,38] (.store 11 [] 0 .nil (.t 38)),
 oc 12 39])
 (.seq (.seq (.join [⟨48,[.b],false⟩] 561850441793536 none (.rg [o1 40 (.load 11 [] 0 .nil 7 true),
 o1 41 (.load 8 [] 0 .nil 7 true),
 o3 42 11 [.t 40,.t 41],
 o1 43 (.data .not [.t 42]),
 oc 44 43,
 o2 45 (.copy 12) 4 false,
 o2 46 (.copy 9) 4 false,
 o2 47 (.data (.beq true) [.t 45,.t 46]) 4 false,
 o7 44 (.c (.bool true)) (.t 47) 48]))
 (.cond (.t 48)
 (.seq (.rg [o1 6 (.lit [.b] [.bool false])])
 .ret)
 .skip))
 (.seq (.seq (.rg [o6 49 10,
 oc 50 2,
 o3 51 21 [.t 50],
 o3 52 23 [.t 49,.t 51],
 o1 53 (.data .not [.t 52])])
 (.cond (.t 53)
 (.seq (.rg [o1 6 (.lit [.b] [.bool false])])
 .ret)
 .skip))
 (.seq (.rg [o1 13 (kL 1)])
 (.seq (.rg [⟨false,[],[],.det 2 (.copy 10),[54,10,36,49],(some 54),none⟩,
 oc 55 13,
 ⟨false,[],[],.call 2 24 [.t 54,.t 55] (.mt 54 [] 0 54 0),[56,54],(some 56),none⟩,
 oc 13 56])
 (.seq (.seq (.join [⟨69,[.b],false⟩] 1180447505529335447552 none (.rg [oc 57 13,
 o1 58 (.data (.bin .lss) [.t 57,kD 0]),
 oc 59 58,
 o2 60 (.load 11 [] 0 .nil 7 true) 2 false,
 o2 61 (.load 8 [] 0 .nil 7 true) 2 false,
 ⟨false,[],[],.call 1 11 [.t 60,.t 61] .no,[62],(some 62),some (2,false)⟩,
 o2 63 (.data .not [.t 62]) 2 false,
 o7 59 (.c (.bool true)) (.t 63) 64,
 oc 65 64,
 o2 66 (.copy 12) 8 false,
 o2 67 (.copy 9) 8 false,
 o2 68 (.data (.beq true) [.t 66,.t 67]) 8 false,
 o7 65 (.c (.bool true)) (.t 68) 69]))
 (.cond (.t 69)
 (.seq (.rg [o1 6 (.lit [.b] [.bool false])])
 .ret)
 .skip))
 (.seq (.rg [o1 14 (kL 1)])
 (.seq (.rg [o1 70 (.load 11 [] 0 .nil 7 true),
 oc 71 14,
 ⟨false,[],[],.call 2 14 [.t 70,.t 71] (.mt 11 [] 0 70 0),[72,11,40,70],(some 72),none⟩,
 oc 14 72])
 (.seq (.rg [o1 15 (kL 1)])
 (.seq (.rg [o1 73 (.load 11 [] 0 .nil 7 true),
 oc 74 15,
 o3 75 17 [.t 73,.t 74],
 oc 15 75])
 (.seq (.seq (.rg [oc 76 15,
 o1 77 (.data (.bin .lss) [.t 76,kD 0])])
 (.cond (.t 77)
 (.seq (.rg [o1 6 (.lit [.b] [.bool false])])
 .ret)
 .skip))
 (.seq (.seq (.rg [oc 78 15,
 oc 79 14,
 o1 80 (.data (.bin .neq) [.t 78,.t 79])])
 (.cond (.t 80)
 (.seq (.rg [o1 6 (.lit [.b] [.bool false])])
 .ret)
 .skip))
 (.seq (.rg [oc 82 0,
 oc 83 1,
 oc 84 2,
 o3 85 21 [.t 84],
 o3 86 22 [.t 82,.t 83,.t 85],
 o5 (.copy 86) 81 86,
 o5 (.ext 81 0 7) 87 81,
 o1 88 (.ext 81 7 1),
 o5 (.a (.c Ty4 [kV 0,kV 0,.slice none 0 0,kV 0,.bool false,.slice none 0 0,.slice none 0 0])) 16 1000000017,
 o4 2 [16,87] (.store 16 [] 0 .nil (.t 87)),
 oc 17 88])
 (.seq (.seq (.join [⟨97,[.b],false⟩] 316293680037414660236726239232 none (.rg [o1 89 (.load 16 [] 0 .nil 7 true),
 o1 90 (.load 8 [] 0 .nil 7 true),
 o3 91 11 [.t 89,.t 90],
 o1 92 (.data .not [.t 91]),
 oc 93 92,
 o2 94 (.copy 17) 4 false,
 o2 95 (.copy 9) 4 false,
 o2 96 (.data (.beq true) [.t 94,.t 95]) 4 false,
 o7 93 (.c (.bool true)) (.t 96) 97]))
 (.cond (.t 97)
 (.seq (.rg [o1 6 (.lit [.b] [.bool false])])
 .ret)
 .skip))
 (.seq (.rg [o1 15 (kL 1)])
 (.seq (.rg [o1 98 (.load 11 [] 0 .nil 7 true),
 oc 99 15,
 o3 100 17 [.t 98,.t 99],
 oc 15 100])
 (.seq (.seq (.rg [oc 101 15,
 o1 102 (.data (.bin .lss) [.t 101,kD 0])])
 (.cond (.t 102)
 (.seq (.rg [o1 6 (.lit [.b] [.bool false])])
 .ret)
 .skip))
 (.seq (.seq (.rg [oc 103 15,
 oc 104 14,
 o1 105 (.data (.bin .neq) [.t 103,.t 104])])
 (.cond (.t 105)
 (.seq (.rg [o1 6 (.lit [.b] [.bool false])])
 .ret)
 .skip))
 (.seq (.rg [o1 6 (.lit [.b] [.bool true])])
 .ret)))))))))))))))))))))))))
def s_lFnExactShardFrom:Sig:=⟨[.rd false [.d],.rd false [.d],.rd false Ct0],(.one false [.d])⟩
def E_lFnExactShardFrom:TEnv:=envOf [(19,p_lszRecS),(21,p_ltoRecS),(20,p_sShardFrom),(22,p_iShardFrom),(11,p_leqShard),(23,p_leqRecS),(24,p_lmarkRecS),(14,p_lmarkShard),(17,p_lheldShard)]
def f_lFnExactShardFrom (n:Nat):Int × Int × (List (Int × Int × Int × Int × Int × Int × Int × Bool × List (Int × Int) × List (Int) × Int × Int × List (Int × Int) × Int))->Option ((Bool) × Unit):=runFn n E_lFnExactShardFrom c_lFnExactShardFrom [[.i .i64],[.i .i64],Ty1] [.b] [] [6] .no
def g_lFnExactShardFrom:=f_lFnExactShardFrom BIG
def p_lFnExactShardFrom:TSp:=⟨s_lFnExactShardFrom,[[.i .i64],[.i .i64],Ty1],[.b],[],Ou.j .no,g_lFnExactShardFrom⟩
theorem k_lFnExactShardFrom:chkW PG E_lFnExactShardFrom 4 s_lFnExactShardFrom (c_lFnExactShardFrom.ht 106) .no=some (c_lFnExactShardFrom.wc E_lFnExactShardFrom,[6]):=by kernel_rfl
theorem ok_lFnExactShardFrom:p_lFnExactShardFrom.Ok PG 4:=mkOk (env_cons ok_lszRecS (env_cons ok_ltoRecS (env_cons ok_sShardFrom (env_cons ok_iShardFrom (env_cons ok_leqShard (env_cons ok_leqRecS (env_cons ok_lmarkRecS (env_cons ok_lmarkShard (env_cons ok_lheldShard (env_nil PG)))))))))) k_lFnExactShardFrom (by kernel_rfl)
theorem e_lFnExactShardFrom (n) (a0) (a1) (a2):f_lFnExactShardFrom n (a0,a1,a2) =
 Option.bind (g_lszRecS (a2,(1048576:Int))) fun r0=>
 bif decide (r0.1<(0:Int)) then
 some (true,())
 else Option.bind (g_ltoRecS a2) fun r1=>
 Option.bind (g_sShardFrom (a0,a1,r1.1)) fun r2=>
 Option.bind (g_ltoRecS a2) fun r3=>
 Option.bind (g_iShardFrom (a0,a1,r3.1)) fun r4=>
 Option.bind (Option.bind (g_leqShard ((r4.1.1,r4.1.2.1,r4.1.2.2.1,r4.1.2.2.2.1,r4.1.2.2.2.2.1,r4.1.2.2.2.2.2.1,r4.1.2.2.2.2.2.2.1),(r2.1.1,r2.1.2.1,r2.1.2.2.1,r2.1.2.2.2.1,r2.1.2.2.2.2.1,r2.1.2.2.2.2.2.1,r2.1.2.2.2.2.2.2.1))) fun r5=>
 bif !r5.1 then
 some true
 else some (!(r4.1.2.2.2.2.2.2.2 == r2.1.2.2.2.2.2.2.2)):Option (Bool)) fun x6=>
 bif x6 then
 some (false,())
 else Option.bind (g_ltoRecS a2) fun r7=>
 Option.bind (g_leqRecS (r3.1,r7.1)) fun r8=>
 bif !r8.1 then
 some (false,())
 else Option.bind (g_lmarkRecS (r3.1,(1:Int))) fun r9=>
 Option.bind (bif decide (r9.1<(0:Int)) then
 some true
 else Option.bind (g_leqShard ((r4.1.1,r4.1.2.1,r4.1.2.2.1,r4.1.2.2.2.1,r4.1.2.2.2.2.1,r4.1.2.2.2.2.2.1,r4.1.2.2.2.2.2.2.1),(r2.1.1,r2.1.2.1,r2.1.2.2.1,r2.1.2.2.2.1,r2.1.2.2.2.2.1,r2.1.2.2.2.2.2.1,r2.1.2.2.2.2.2.2.1))) fun r10=>
 bif !r10.1 then
 some true
 else some (!(r4.1.2.2.2.2.2.2.2 == r2.1.2.2.2.2.2.2.2)):Option (Bool)) fun x11=>
 bif x11 then
 some (false,())
 else Option.bind (g_lmarkShard ((r4.1.1,r4.1.2.1,r4.1.2.2.1,r4.1.2.2.2.1,r4.1.2.2.2.2.1,r4.1.2.2.2.2.2.1,r4.1.2.2.2.2.2.2.1),(1:Int))) fun r12=>
 Option.bind (g_lheldShard (r12.2,(1:Int))) fun r13=>
 bif decide (r13.1<(0:Int)) then
 some (false,())
 else bif !decide (r13.1=r12.1) then
 some (false,())
 else Option.bind (g_ltoRecS a2) fun r14=>
 Option.bind (g_iShardFrom (a0,a1,r14.1)) fun r15=>
 Option.bind (Option.bind (g_leqShard ((r15.1.1,r15.1.2.1,r15.1.2.2.1,r15.1.2.2.2.1,r15.1.2.2.2.2.1,r15.1.2.2.2.2.2.1,r15.1.2.2.2.2.2.2.1),(r2.1.1,r2.1.2.1,r2.1.2.2.1,r2.1.2.2.2.1,r2.1.2.2.2.2.1,r2.1.2.2.2.2.2.1,r2.1.2.2.2.2.2.2.1))) fun r16=>
 bif !r16.1 then
 some true
 else some (!(r15.1.2.2.2.2.2.2.2 == r2.1.2.2.2.2.2.2.2)):Option (Bool)) fun x17=>
 bif x17 then
 some (false,())
 else Option.bind (g_lheldShard (r12.2,(1:Int))) fun r18=>
 bif decide (r18.1<(0:Int)) then
 some (false,())
 else bif !decide (r18.1=r12.1) then
 some (false,())
 else some (true,()):=by kernel_rfl
end
end Go.Fw
