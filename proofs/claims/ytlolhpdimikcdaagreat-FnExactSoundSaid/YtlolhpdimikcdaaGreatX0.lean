/- The given functions, as what they compute; each is shown to be what the code does. No conditions. -/
import Derived.Test.YtlolhpdimikcdaaGreatG5
import Derived.Test.YtlolhpdimikcdaaGreatProg
set_option linter.unusedVariables false
set_option linter.unusedSimpArgs false
set_option linter.unusedSectionVars false
namespace Go.Fw
noncomputable abbrev PG:=Go.Proofs.Tryz.prog
def o2 (d:Nat) (e:ED) (j:Nat) (b:Bool):TO:=⟨false,[],[],.det 1 e,[d],some d,some (j,b)⟩
def o3 (d:Nat) (K:FuncId) (gets:List OY):TO:=⟨false,[],[],.call 1 K gets .no,[d],some d,none⟩
def o4 (n:Nat) (ds:List Nat) (e:ED):TO:=⟨false,[],[],.det n e,ds,none,none⟩
abbrev Ty0 : List TY := [.i .i64, .i .i64, .sl [.i .i64], .sl [.i .i64, .i .i64], .sl [.sl [.i .i64]], .sl [.i .i64], .i .i64, .i .i64, .i .i64, .i .i64, .i .i64, .i .i64, .i .i64, .sl [.i .i64, .i .i64], .i .i64, .sl [.i .i64, .i .i64, .i .i64, .i .i64, .i .i64, .i .i64], .sl [.i .i64, .i .i64, .sl [.i .i64, .i .i64, .i .i64, .b], .i .i64, .b, .sl [.i .i64, .i .i64], .sl [.i .i64]], .sl [.sl [.s, .s, .i .i64]], .sl [.b], .sl [.i .i64, .i .i64, .s], .sl [.i .i64, .i .i64, .i .i64, .i .i64, .i .i64, .i .i64, .i .i64], .sl [.i .i64, .i .i64, .i .i64, .i .i64, .i .i64, .i .i64, .i .i64, .b, .sl [.i .i64, .i .i64], .sl [.i .i64], .i .i64, .i .i64, .sl [.i .i64, .i .i64], .i .i64]]
abbrev Ty1 : List TY := [.i .i64, .sl [.i .i64], .sl [.i .i64, .i .i64], .sl [.sl [.i .i64]], .sl [.i .i64], .i .i64, .i .i64, .i .i64, .i .i64, .i .i64, .i .i64, .i .i64, .sl [.i .i64, .i .i64], .i .i64, .sl [.i .i64, .i .i64, .i .i64, .i .i64, .i .i64, .i .i64], .i .i64]
abbrev Ty2 : List TY := [.i .i64, .sl [.i .i64], .sl [.i .i64, .i .i64], .sl [.sl [.i .i64]], .sl [.i .i64], .i .i64, .i .i64, .i .i64, .i .i64, .i .i64, .i .i64, .i .i64, .sl [.i .i64, .i .i64], .i .i64, .sl [.i .i64, .i .i64, .i .i64, .i .i64, .i .i64, .i .i64], .b]
abbrev Ty3 : List TY := [.i .i64, .sl [.i .i64], .sl [.i .i64, .i .i64], .sl [.sl [.i .i64]], .sl [.i .i64], .i .i64, .i .i64, .i .i64, .i .i64, .i .i64, .i .i64, .i .i64, .sl [.i .i64, .i .i64], .i .i64, .sl [.i .i64, .i .i64, .i .i64, .i .i64, .i .i64, .i .i64]]
abbrev Ty4 : List TY := [.sl [.i .i64, .i .i64, .i .i64, .i .i64, .i .i64, .i .i64, .i .i64, .b, .sl [.i .i64, .i .i64], .sl [.i .i64], .i .i64, .i .i64, .sl [.i .i64, .i .i64], .i .i64]]
abbrev Ty5 : List TY := [.i .i64, .i .i64, .i .i64, .i .i64, .i .i64, .i .i64, .i .i64, .b, .sl [.i .i64, .i .i64], .sl [.i .i64], .i .i64, .i .i64, .sl [.i .i64, .i .i64], .i .i64]
abbrev Ty6 : List TY := [.sl [.i .i64, .i .i64, .sl [.i .i64, .i .i64, .i .i64, .b], .i .i64, .b, .sl [.i .i64, .i .i64], .sl [.i .i64]]]
abbrev Ty7 : List TY := [.i .i64, .i .i64, .sl [.i .i64, .i .i64, .i .i64, .b], .i .i64, .b, .sl [.i .i64, .i .i64], .sl [.i .i64]]
abbrev Ty8 : List TY := [.i .i64, .i .i64, .i .i64, .i .i64, .i .i64, .i .i64, .i .i64, .sl [.i .i64, .i .i64], .i .i64]
abbrev Ty9 : List TY := [.sl [.i .i64, .i .i64, .i .i64, .i .i64, .i .i64, .i .i64, .i .i64]]
abbrev Ty10 : List TY := [.i .i64, .i .i64, .i .i64, .i .i64, .i .i64, .i .i64, .i .i64]
abbrev Ty11 : List TY := [.sl [.i .i64, .i .i64, .i .i64, .i .i64, .i .i64, .i .i64]]
abbrev Ty12 : List TY := [.i .i64, .i .i64, .i .i64, .i .i64, .i .i64, .i .i64]
abbrev Ty13 : List TY := [.i .i64, .b, .sl [.i .i64, .i .i64], .sl [.i .i64]]
abbrev Ty14 : List TY := [.i .i64, .i .i64, .sl [.i .i64, .i .i64], .i .i64]
abbrev Ty15 : List TY := [.i .i64, .sl [.i .i64, .i .i64, .i .i64, .b]]
abbrev Ty16 : List TY := [.i .i64, .sl [.i .i64, .i .i64], .i .i64]
abbrev Ty17 : List TY := [.sl [.i .i64, .i .i64, .i .i64, .b]]
abbrev Ty18 : List TY := [.i .i64, .sl [.i .i64, .i .i64], .b]
abbrev Ty19 : List TY := [.i .i64, .i .i64, .i .i64, .i .i64]
abbrev Ty20 : List TY := [.i .i64, .sl [.i .i64, .i .i64]]
abbrev Ty21 : List TY := [.i .i64, .i .i64, .i .i64, .b]
abbrev Ty22 : List TY := [.sl [.sl [.i .i64, .i .i64]]]
abbrev Ty23 : List TY := [.sl [.sl [.s, .s, .i .i64]]]
abbrev Ty24 : List TY := [.sl [.i .i64, .i .i64, .s]]
abbrev Ty25 : List TY := [.sl [.i .i64, .i .i64], .b]
abbrev Ct0:List CT:=[.d,.d,.sl (.own none) [.d],.sl (.own none) [.d,.d],.sl (.own none) [.sl (.own none) [.d]],.sl (.own none) [.d],.d,.d,.d,.d,.d,.d,.d,.sl (.own none) [.d,.d],.d,.sl (.own none) [.d,.d,.d,.d,.d,.d],.sl (.own none) [.d,.d,.sl (.own none) [.d,.d,.d,.d],.d,.d,.sl (.own none) [.d,.d],.sl (.own none) [.d]],.sl (.own none) [.sl (.own none) [.d,.d,.d]],.sl (.own none) [.d],.sl (.own none) [.d,.d,.d],.sl (.own none) [.d,.d,.d,.d,.d,.d,.d],.sl (.own none) [.d,.d,.d,.d,.d,.d,.d,.d,.sl (.own none) [.d,.d],.sl (.own none) [.d],.d,.d,.sl (.own none) [.d,.d],.d]]
abbrev Ct1:List CT:=[.d,.sl (.own none) [.d],.sl (.own none) [.d,.d],.sl (.own none) [.sl (.own none) [.d]],.sl (.own none) [.d],.d,.d,.d,.d,.d,.d,.d,.sl (.own none) [.d,.d],.d,.sl (.own none) [.d,.d,.d,.d,.d,.d],.d]
abbrev Ct2:List CT:=[.d,.sl (.own none) [.d],.sl (.own none) [.d,.d],.sl (.own none) [.sl (.own none) [.d]],.sl (.own none) [.d],.d,.d,.d,.d,.d,.d,.d,.sl (.own none) [.d,.d],.d,.sl (.own none) [.d,.d,.d,.d,.d,.d]]
abbrev Ct3:List CT:=[.sl (.own none) [.d,.d,.d,.d,.d,.d,.d,.d,.sl (.own none) [.d,.d],.sl (.own none) [.d],.d,.d,.sl (.own none) [.d,.d],.d]]
abbrev Ct4:List CT:=[.sl (.own none) [.d,.d,.sl (.own none) [.d,.d,.d,.d],.d,.d,.sl (.own none) [.d,.d],.sl (.own none) [.d]]]
abbrev Ct5:List CT:=[.d,.d,.d,.d,.d,.d,.d,.d,.sl (.own none) [.d,.d],.sl (.own none) [.d],.d,.d,.sl (.own none) [.d,.d],.d]
abbrev Ct6:List CT:=[.d,.d,.sl (.own none) [.d,.d,.d,.d],.d,.d,.sl (.own none) [.d,.d],.sl (.own none) [.d]]
abbrev Ct7:List CT:=[.d,.d,.sl (.own none) [.d,.d],.sl (.own none) [.d]]
abbrev Ct8:List CT:=[.d,.d,.d,.d,.d,.d,.d,.sl (.own none) [.d,.d],.d]
abbrev Ct9:List CT:=[.sl (.own none) [.sl (.own none) [.d,.d,.d]]]
abbrev Ct10:List CT:=[.sl (.own none) [.sl (.own none) [.d,.d]]]
abbrev Ct11:List CT:=[.sl (.own none) [.sl (.own none) [.d]]]
abbrev Ct12:List CT:=[.sl (.own none) [.d,.d,.d,.d,.d,.d,.d]]
abbrev Ct13:List CT:=[.sl (.own none) [.d,.d,.d,.d,.d,.d]]
abbrev Ct14:List CT:=[.d,.d,.sl (.own none) [.d,.d],.d]
abbrev Ct15:List CT:=[.d,.sl (.own none) [.d,.d,.d,.d]]
abbrev Ct16:List CT:=[.sl (.own none) [.d,.d,.d,.d]]
abbrev Ct17:List CT:=[.d,.sl (.own none) [.d,.d],.d]
abbrev Ct18:List CT:=[.sl (.own none) [.d,.d,.d]]
abbrev Ct19:List CT:=[.d,.sl (.own none) [.d,.d]]
abbrev Ct20:List CT:=[.sl (.own none) [.d,.d]]
abbrev Ct21:List CT:=[.sl (.own none) [.d]]
abbrev Ct22:List CT:=[.d,.d,.d,.d,.d,.d,.d]
abbrev Ct23:List CT:=[.d,.d,.d,.d,.d,.d]
def oc (d s:Nat):TO:=o1 d (.copy s)
def oi (d:Nat):TO:=o1 d (.idx .nil)
def o5 (e:ED) (d x:Nat):TO:=⟨false,[],[],.det 2 e,[d,x],some d,none⟩
def o6 (d s:Nat):TO:=⟨true,[],[],.det 1 (.copy s),[d],some d,none⟩
def o7 (a:Nat) (x y:DX) (d:Nat):TO:=⟨false,[],[],.pick a x y,[d],some d,none⟩
abbrev kV (n:Int):Value:=.int .i64 n
abbrev kO (n:Int):OY:=.c [.i .i64] [kV n]
abbrev kD (n:Int):DX:=.c (kV n)
abbrev kL (n:Int):ED:=.lit [.i .i64] [kV n]
abbrev iI:TY:=.i .i64
def zS (l:List (List TO)) (c:TC):TC:=.seq (.rg l.flatten) c
def zR (l:List (List TO)):TC:=.rg l.flatten
def zQ (a b:TC):TC:=.seq a b
def zC (x:Nat) (a b:TC):TC:=.cond (.t x) a b
def zAa (a:Nat):List TO:=[o1 a (kL 0)]
def zAb (a b:Nat):List TO:=[oc a b]
def zAc (a b:Nat):List TO:=[o1 a (.len b)]
def zAd (a b c:Nat):List TO:=[o1 a (.data (.bin .sub) [.t b,.t c])]
def zAe (a b:Nat):List TO:=[o1 a (.data (.bin .lss) [.t b,kD 0])]
def zAf:List TO:=[o1 4 (kL (-1))]
def zAg (a b c:Nat):List TO:=[o1 a (.data (.bin .lss) [.t b,.t c])]
def zAh (a b c:Nat):List TO:=[o1 a (.index b (.t c))]
def zAi (a b c d e:Nat):List TO:=[o1 a (.load b [(0,c)] 0 (.t d) e false)]
def zAj (a b c d:Nat):List TO:=[o3 a b [.t c,.t d]]
def zAk (a b:Nat):List TO:=[o1 a (.data (.bin .add) [.t b,kD 1])]
def zAm (a:Nat):List TO:=[o1 a (.a (.t 0))]
def zAn (a:Nat):List TO:=[oi a]
def zAo (a b c d:Nat):List TO:=[o1 a (.load b [] c (.t d) 1 false)]
def zAp (a b c d e:Nat):List TO:=[o1 a (.load b [] c (.t d) e false)]
def zAq (a b:Nat):List TO:=[o1 a (.data .slen [.t b])]
def zAr (a:Nat):List TO:=[o1 a (.lit [.sl [.i .i64]] [.slice none 0 0])]
def zAs (a b c:Nat):List TO:=[o5 (.copy a) b c]
def zAt (a b:Nat):List TO:=[o6 a b]
def zAu (a b c d:Nat):List TO:=[o4 1 [3,a] (.store 3 [(0,b)] 0 (.t c) (.t d))]
def zAv (a b:Nat):List TO:=[o5 (.a (.c [.i .i64,.i .i64] [kV 0,kV 0])) a b]
def zAw (a b c:Nat):List TO:=[o4 1 [3] (.store 3 [] a (.t b) (.t c))]
def zAx (a b c:Nat):List TO:=[o1 a (.load b [] 0 .nil c false)]
def zAy (a b c:Nat):List TO:=[o4 1 [a] (.store b [] 0 .nil (.t c))]
def zAz (a:Nat):List TO:=[o1 a (.lit [.sl [.i .i64,.i .i64]] [.slice none 0 0])]
def zAA (a b c:Nat):List TO:=[o3 a b [.t c]]
def zAB (a b c d e f g h i:Nat):List TO:=[o4 a [b,c,d,e] (.store f [(0,g)] 0 (.t h) (.t i))]
def zAC (a b:Nat):List TO:=[o5 (.a (.c Ty19 [kV 0,kV 0,kV 0,kV 0])) a b]
def zAD (a b:Nat):List TO:=[o5 (.a (.c Ty14 [kV 0,kV 0,.slice none 0 0,kV 0])) a b]
def zAE (a b c d:Nat):List TO:=[o4 2 [3,a] (.store 3 [] b (.t c) (.t d))]
def zBa (a b c:Nat):List TO:=[o1 a (.load b [] 0 .nil c true)]
def zBb (a b c d e f g:Nat):List TO:=[⟨false,[a],[],.det 2 (.store b [] 0 .nil (.t c)),[d,e,f,g],none,none⟩]
def zBc (a b:Nat):List TO:=[o5 (.a (.c Ty8 [kV 0,kV 0,kV 0,kV 0,kV 0,kV 0,kV 0,.slice none 0 0,kV 0])) a b]
def zBd (a b:Nat):List TO:=[o5 (.a (.c Ty12 [kV 0,kV 0,kV 0,kV 0,kV 0,kV 0])) a b]
def zBe (a b:Nat):List TO:=[o5 (.a (.c Ty3 [kV 0,.slice none 0 0,.slice none 0 0,.slice none 0 0,.slice none 0 0,kV 0,kV 0,kV 0,kV 0,kV 0,kV 0,kV 0,.slice none 0 0,kV 0,.slice none 0 0])) a b]
def zBf (a b:Nat):List TO:=[o5 (.a (.c Ty21 [kV 0,kV 0,kV 0,.bool false])) a b]
def zBg (a b:Nat):List TO:=[o5 (.a (.c Ty15 [kV 0,.slice none 0 0])) a b]
def zBh (a b:Nat):List TO:=[o5 (.a (.c Ty13 [kV 0,.bool false,.slice none 0 0,.slice none 0 0])) a b]
def zBi (a b:Nat):List TO:=[o5 (.a (.c Ty7 [kV 0,kV 0,.slice none 0 0,kV 0,.bool false,.slice none 0 0,.slice none 0 0])) a b]
def zBj (a b:Nat):List TO:=[o5 (.a (.c [.sl [.s,.s,.i .i64]] [.slice none 0 0])) a b]
def zBk (a b:Nat):List TO:=[o5 (.a (.c Ty10 [kV 0,kV 0,kV 0,kV 0,kV 0,kV 0,kV 0])) a b]
def zBm (a b:Nat):List TO:=[o5 (.a (.c Ty5 [kV 0,kV 0,kV 0,kV 0,kV 0,kV 0,kV 0,.bool false,.slice none 0 0,.slice none 0 0,kV 0,kV 0,.slice none 0 0,kV 0])) a b]
def zBn (a b:Nat):List TO:=[o5 (.a (.c Ty0 [kV 0,kV 0,.slice none 0 0,.slice none 0 0,.slice none 0 0,.slice none 0 0,kV 0,kV 0,kV 0,kV 0,kV 0,kV 0,kV 0,.slice none 0 0,kV 0,.slice none 0 0,.slice none 0 0,.slice none 0 0,.slice none 0 0,.slice none 0 0,.slice none 0 0,.slice none 0 0])) a b]
def zBo (a:Nat):List TO:=[o1 a (.lit [.b] [.bool false])]
def zBp:List TO:=[o1 9 (.data (.bin .geq) [.t 7,.t 8])]
def zBq (a b c:Nat):List TO:=[o2 a (.copy b) c true]
def zBr:List TO:=[o2 13 (.data (.bin .leq) [.t 11,.t 12]) 3 true]
def zBs (a b c:Nat):List TO:=[o7 a (.t b) (.c (.bool false)) c]
def zBt (a:Nat):List TO:=[o1 a (.sli [.i .i64] [])]
def zBu (a b:Nat):List TO:=[o1 a (.sli [.i .i64] [.t b])]
def zBv (a b c d:Nat):List TO:=[o5 (.app (some a) b) c d]
def zBw (a b:Nat):List TO:=[o1 a (.idx (.t b))]
def zBx (a b c d e f:Nat):List TO:=[o1 a (.load b [(0,c)] d (.t e) f false)]
def zBy (a b c:Nat)(d:Int):List TO:=[o3 a b [.t c,kO 1,kO d]]
def zBz (a b:Nat):List TO:=[o1 a (.data .not [.t b])]
def zBA (a b c:Nat):List TO:=[o2 a (.copy b) c false]
def zBB (a b:Nat)(c:Int)(d e f:Nat):List TO:=[⟨false,[],[],.call 1 a [.t b,kO 1,kO c] .no,[d],(some e),some (f,false)⟩]
def zBC (a b c:Nat):List TO:=[o2 a (.data .not [.t b]) c false]
def zBD (a b c:Nat):List TO:=[o7 a (.c (.bool true)) (.t b) c]
def zBE (a:Nat):List TO:=[o1 a (.build Ty3 [])]
def zDa (a b c d:Nat):List TO:=[o4 2 [a,b] (.store c [] 0 .nil (.t d))]
def zDb (a b c d:Nat):List TO:=[o1 a (.load b [] c (.t d) 1 true)]
def zDc (a b c d e f g h:Nat):List TO:=[⟨false,[a],[],.det 2 (.app (some b) c),[d,e,f,g],(some h),none⟩]
def zDd (a b c d e f g:Nat):List TO:=[o4 2 [a,b,c] (.store d [] e (.t f) (.t g))]
def zDe (a:Nat):List TO:=[o1 a (.sli [.i .i64,.i .i64] [])]
def zDf (a b c:Nat):List TO:=[o5 (.sli [.sl [.i .i64]] [.t a]) b c]
def zDg (a b c d e f g h i:Nat):List TO:=[⟨false,[a],[],.det 3 (.app (some b) c),[d,e,f,g,h],(some i),none⟩]
def zDh (a:Nat):List TO:=[o1 a (.lit [.b] [.bool true])]
def zDi (a b c d e f:Nat):List TO:=[o4 2 [a,b] (.store c [] d (.t e) (.t f))]
def zDj (a b c d e f:Nat):List TO:=[⟨false,[],[],.det 3 (.app (some a) b),[c,d,e],(some f),none⟩]
def zDk (a b:Nat):List TO:=[o1 a (.a (.t b))]
def zDm (a b:Nat):List TO:=[o2 a (.idx .nil) b true]
def zDn (a b c d e:Nat):List TO:=[o2 a (.load b [] c (.t d) 1 false) e true]
def zDo (a b c:Nat):List TO:=[o2 a (.data (.bin .sub) [.t b,kD 1]) c true]
def zDp (a b c d e f:Nat):List TO:=[⟨false,[],[],.call 1 a [.t b,kO 0,.t c] .no,[d],(some e),some (f,true)⟩]
def zDq (a b c d:Nat):List TO:=[o2 a (.data (.bin .lss) [.t b,.t c]) d true]
def zDr (a b:Nat):List TO:=[o2 a (.idx .nil) b false]
def zDs (a b c d e:Nat):List TO:=[o2 a (.load b [] c (.t d) 1 false) e false]
def zDt (a b c d:Nat):List TO:=[o2 a (.data (.bin .eql) [.t b,.t c]) d false]
def zDu (a b c d e:Nat):List TO:=[⟨false,[],[],.pick a (.t b) (.c (.bool false)),[c],(some d),some (e,false)⟩]
def zDv (a b:Nat)(c:Int)(d:Nat):List TO:=[o2 a (.data (.bin .gtr) [.t b,kD c]) d false]
def zDw (a b c d:Nat):List TO:=[o2 a (.index b (.t c)) d true]
def zDx (a b c d e f:Nat):List TO:=[o2 a (.load b [(0,c)] 0 (.t d) e false) f true]
def zDy (a b c d e f:Nat):List TO:=[⟨false,[],[],.call 1 a [.t b,.t c] .no,[d],(some e),some (f,true)⟩]
def zDz (a b c:Nat):List TO:=[o2 a (.data .not [.t b]) c true]
def zDA (a b:Nat)(c:Int):List TO:=[o1 a (.data (.bin .leq) [.t b,kD c])]
def zDB (a b c:Nat):List TO:=[o1 a (.data (.bin .neq) [.t b,.t c])]
def zDC (a b c d:Nat):List TO:=[o3 a b [.t c,kO 0,.t d]]
def zDD (a b c d:Nat):List TO:=[o2 a (.index b (.t c)) d false]
def zDE (a b c d:Nat):List TO:=[o2 a (.load b [(0,1)] 0 (.t c) 1 false) d false]
def zEa (a b c d:Nat):List TO:=[o2 a (.data (.bin .neq) [.t b,.t c]) d false]
def zEb (a b c:Nat):List TO:=[o1 a (.data (.bin .eql) [.t b,.t c])]
def zEc (a b c:Nat):List TO:=[o1 a (.eqA [.i,.i] (.t b) (.t c) true)]
def zEd (a b c d:Nat):List TO:=[o2 a (.data (.bin .eql) [.t b,.t c]) d true]
def zEe (a b c:Nat):List TO:=[o1 a (.eqA [.i,.i,.i,.i] (.t b) (.t c) false)]
def zEf (a b c:Nat):List TO:=[o2 a (.data (.bin .eql) [.t b,kD 0]) c true]
def zEg (a b c d e f:Nat):List TO:=[o2 a (.load b [] c (.t d) e false) f true]
def zEh (a b c d e f:Nat):List TO:=[⟨false,[],[],.call 1 a [.t b,.t c] .no,[d],(some e),some (f,false)⟩]
def zEi (a b:Nat)(c:Int):List TO:=[o1 a (.data (.bin .eql) [.t b,kD c])]
def zEj (a b c:Nat):List TO:=[o2 a (.data (.bin .sub) [.t b,kD 1]) c false]
def zEk (a b:Nat)(c:Int)(d e f g:Nat):List TO:=[⟨false,[],[],.call 1 a [.t b,kO c,.t d] .no,[e],(some f),some (g,false)⟩]
def zEm (a b c:Nat)(d:Int)(e:Nat):List TO:=[o3 a b [.t c,kO d,.t e]]
def zEn (a b:Nat):List TO:=[o1 a (.data (.bin .sub) [.t b,kD 1])]
def zEo (a b c:Nat):List TO:=[o2 a (.idx (.t b)) c true]
def zEp (a b c d e:Nat):List TO:=[o2 a (.load b [(0,c)] 0 (.t d) 1 false) e true]
def zEq (a b c:Nat):List TO:=[o2 a (.data (.bin .add) [.t b,kD 1]) c true]
def zEr (a b c d:Nat):List TO:=[o2 a (.load b [] 0 .nil c false) d true]
def zEs (a b:Nat):List TO:=[o2 a (.data (.bin .lss) [.t b,kD 0]) 27 true]
def zEt (a b:Nat)(c:Int)(d:Nat):List TO:=[o2 a (.data (.bin .neq) [.t b,kD c]) d true]
def zEu (a b c d e:Nat):List TO:=[⟨false,[],[],.call 1 a [.t b,kO 1,kO 100000] .no,[c],(some d),some (e,true)⟩]
def zEv (a b c:Nat):List TO:=[o2 a (.len b) c false]
def zEw (a b:Nat)(c d:Int)(e f g:Nat):List TO:=[⟨false,[],[],.call 1 a [.t b,kO c,kO d] .no,[e],(some f),some (g,false)⟩]
def zEx (a b c d:Nat):List TO:=[o2 a (.load b [] 0 .nil c false) d false]
def zEy (a b:Nat)(c:Int):List TO:=[o1 a (.data (.bin .neq) [.t b,kD c])]
def zEz (a:Nat):List TO:=[o1 a (.p0)]
def zEA (a b:Nat):List TO:=[o1 a (.same b)]
def zEB (a b c:Nat):List TO:=[o1 a (.load 0 [] b (.t c) 1 true)]
def zEC (a b c d:Nat):List TO:=[o1 a (.build Ty12 [(0,.t b),(1,.t c),(5,.t d)])]
def zED (a b:Nat):List TO:=[o1 a (.sli Ty12 [.t b])]
def zEE (a:Nat):List TO:=[o1 a (.build Ty8 [])]
def zGa (a b c:Nat):List TO:=[o1 a (.build [.i .i64,.i .i64] [(0,.t b),(1,.t c)])]
def zGb (a b:Nat):List TO:=[o1 a (.sli [.i .i64,.i .i64] [.t b])]
def zGc (a b c d e f:Nat):List TO:=[o1 a (.load b [(c,d)] 0 (.t e) f false)]
def zGd (a b c d e:Nat):List TO:=[o4 1 [a] (.store b [] c (.t d) (.t e))]
def zGe:List TO:=[⟨false,[22],[],.det 2 (.build Ty8 [(0,.t 20),(4,.t 21),(5,.t 22)]),[23,22,22,7],(some 23),none⟩]
def zGf:List TO:=[o4 2 [0,23,12,15] (.store 0 [] 5 (.t 25) (.t 23))]
def zGg (a:Nat)(b:Int):List TO:=[o1 a (kL b)]
def zGh (a b c d:Nat):List TO:=[o4 2 [0,a,16,19,24,27,48,b] (.store 0 [] 2 (.t c) (.t d))]
def zGi (a b:Nat)(c:Int)(d e:Nat):List TO:=[⟨false,[],[],.call 2 a [.t 0,.t b,kO c] (.mp 0),[d,0],(some e),none⟩]
def zGj (a b:Nat)(c:Int)(d:Nat):List TO:=[o2 a (.data (.bin .geq) [.t b,kD c]) d false]
def zGk (a b c d e:Nat):List TO:=[⟨false,[],[],.call 1 a [.t b] .no,[c],(some d),some (e,false)⟩]
def zGm (a b c:Nat)(d:Int)(e f g:Nat):List TO:=[⟨false,[],[],.call 2 a [.t b,.t c,kO d] (.mp 0),[e,f],(some g),none⟩]
def zGn (a b c d e:Nat):List TO:=[o3 a b [.t c,.t d,.t e]]
def zGo (a b c d:Nat):List TO:=[o5 (.ext a 0 b) c d]
def zGp (a b c:Nat):List TO:=[o1 a (.ext b c 1)]
def zGq (a b c d e f g:Nat):List TO:=[⟨false,[],[],.call 2 a [.t b,.t c,.t d] (.mp 0),[e,f],(some g),none⟩]
def zGr (a b c d e:Nat):List TO:=[⟨false,[],[a],.det 1 (.load b [] 0 .nil c false),[d],(some e),none⟩]
def zGs (a b c:Nat):List TO:=[⟨false,[],[a],.det 1 (.idx .nil),[b],(some c),none⟩]
def zGt (a b c d e f:Nat):List TO:=[⟨false,[],[a],.det 1 (.load b [] c (.t d) 1 false),[e],(some f),none⟩]
def zGu (a b c d:Nat):List TO:=[⟨false,[],[1000000002],.det 1 (.index a (.t b)),[c],(some d),none⟩]
def zGv (a b c d e:Nat):List TO:=[⟨false,[],[1000000002],.det 1 (.load a [(b,1)] 0 (.t c) 1 false),[d],(some e),none⟩]
def zGw (a b:Nat):List TO:=[o5 (.build Ty14 [(1,kO 3),(3,.t a)]) b 1000000002]
def zGx (a b c d e f g h i:Nat):List TO:=[⟨false,[],[],.call 3 a [.t b,.t c,.t d,.t e] (.mp 0),[f,g,h],(some i),none⟩]
def zGy (a b c d:Nat):List TO:=[⟨false,[],[],.call 2 a [.t 6,.t b] (.mp 0),[c,6],(some d),none⟩]
def zGz (a b c:Nat):List TO:=[o2 a (.len b) c true]
def zGA (a b c:Nat):List TO:=[⟨false,[a],[],.det 1 (.copy b),[7,c],(some 7),none⟩]
def zGB (a b c d e f g:Nat):List TO:=[o4 1 [a,b] (.store c [(d,e)] 0 (.t f) (.t g))]
def zGC (a b c d e f:Nat):List TO:=[⟨false,[],[],.det 2 (.copy a),[b,c,d,e],(some f),none⟩]
def zGD (a:Int)(b c d e:Nat):List TO:=[⟨false,[],[],.det 3 (.build Ty14 [(1,kO a),(2,.t b)]),[c,1000000002,d],(some e),none⟩]
def zGE (a b c:Nat):List TO:=[o2 a (.idx (.t b)) c false]
def zHa (a b:Nat)(c:Int)(d:Nat):List TO:=[o2 a (.data (.bin .eql) [.t b,kD c]) d true]
def zHb (a b c:Nat):List TO:=[o1 a (.eqA [.i,.i,.i,.i,.i,.i] (.t b) (.t c) true)]
def zHc (a b c:Nat):List TO:=[⟨true,[],[],.det 1 (.copy 7),[a],(some b),some (c,true)⟩]
def zHd (a b:Nat):List TO:=[o5 (.a (.c Ty20 [kV 0,.slice none 0 0])) a b]
def zHe (a:Nat):List TO:=[o1 a (.build Ty20 [])]
def zHf (a b c d:Nat):List TO:=[o5 (.build Ty20 [(0,.t a),(1,.t b)]) c d]
def zHg (a b c d e:Nat):List TO:=[⟨false,[],[1000000007],.det 2 (.build Ty20 [(0,.t a),(1,.t b)]),[c,d],(some e),none⟩]
def zHh (a b:Nat):List TO:=[o1 a (.data (.bin .geq) [.t b,kD 0])]
def zHi (a b c d e:Nat):List TO:=[⟨false,[],[a],.call 1 b [.t c] .no,[d],(some e),none⟩]
def zHj (a b:Nat):List TO:=[o1 a (.build Ty20 [(0,.t b)])]
def zHk (a b c d e f g h:Nat):List TO:=[⟨false,[a],[],.det 2 (.store b [] 0 .nil (.t c)),[d,e,f,g,h],none,none⟩]
def zHm (a b c d e f:Nat):List TO:=[o2 a (.load b [(0,c)] d (.t e) 1 false) f false]
def zHn (a b c d e:Nat):List TO:=[⟨false,[],[],.det 2 (.copy a),[b,c,d],(some e),none⟩]
def zHo (a:Nat):List TO:=[o1 a (.sli [.sl [.i .i64,.i .i64]] [])]
def zHp (a b:Nat):List TO:=[o1 a (.sli [.sl [.i .i64,.i .i64]] [.t b])]
def zHq (a b c d e f g:Nat):List TO:=[⟨false,[],[],.call 1 a [.t b,.t c,.t d] .no,[e],(some f),some (g,true)⟩]
def zHr (a b c:Nat):List TO:=[o5 (.sli [.sl [.i .i64,.i .i64]] [.t a]) b c]
def zHs (a b c d e:Nat):List TO:=[⟨false,[],[],.det 2 (.copy a),[b,c],(some d),some (e,true)⟩]
def zHt (a b c d e:Nat):List TO:=[o2 a (.load b [] c (.t d) 1 true) e true]
def zHu (a:Nat):List TO:=[o2 a (.load 3 [] 0 .nil 2 true) 13 true]
def zHv (a b c d e:Nat):List TO:=[⟨false,[],[],.call 1 a [.t b] .no,[c],(some d),some (e,true)⟩]
def zHw (a b c:Nat):List TO:=[o2 a (.data (.bin .add) [.t b,kD 1]) c false]
def zHx (a b:Nat):List TO:=[o1 a (.app none b)]
def zHy (a b c d e f g:Nat):List TO:=[⟨false,[],[],.call 1 a [.t b,.t c,.t d] .no,[e],(some f),some (g,false)⟩]
def zHz (a b:Nat)(c:Int)(d:Nat):List TO:=[o2 a (.data (.bin .eql) [.t b,kD c]) d false]
def zHA (a b c d e:Nat):List TO:=[⟨false,[],[],.pick a (.c (.bool true)) (.t b),[c],(some d),some (e,true)⟩]
def zHB (a b c d e f g h i:Nat):List TO:=[⟨false,[],[],.call 2 127 [.t a,.t b,.t c] (.mt d [] 0 e 0),[f,g,h],(some i),none⟩]
def zHC (a b c:Nat):List TO:=[⟨false,[],[1000000002],.det 1 (.same a),[b],(some c),none⟩]
def zHD (a b c:Nat):List TO:=[⟨false,[],[1000000002],.det 1 (.idx (.t a)),[b],(some c),none⟩]
def zHE (a b c:Nat):List TO:=[⟨false,[],[1000000002],.det 1 (.load 0 [] 1 (.t a) 1 true),[b],(some c),none⟩]
def zIa (a b c d:Nat):List TO:=[o4 2 [0,a,12,19,22,27,30,56,59,64,67,b] (.store 0 [] 2 (.t c) (.t d))]
def zIb (a:Nat)(b:Int)(c d e:Nat):List TO:=[⟨false,[],[],.call 2 120 [.t 0,.t a,kO b] (.mp 0),[c,0,d],(some e),none⟩]
def zIc (a b c d e f g:Nat):List TO:=[⟨false,[a,b],[],.det 1 (.store c [] 0 .nil (.t d)),[e,f,g],none,none⟩]
def zId (a b c d:Nat):List TO:=[⟨false,[a],[],.det 2 (.store 4 [] 0 .nil (.t b)),[4,c,d,6,9,67],none,none⟩]
def zIe (a b c:Nat):List TO:=[o1 a (.data (.beq true) [.t b,.t c])]
def zIf (a b c:Nat):List TO:=zAn a++zAo (a+1) b c a
def zIg (a b c d e:Nat):List TO:=zAh a b c++zAi (a+1) b d a e
def zIh (a b c:Nat):List TO:=zAb a b++zAb (a+1) c
def zIi (a b:Nat):List TO:=zAb a b++zAk (a+1) a
def zIj (a b c d:Nat):List TO:=zAn a++zAo (a+1) b c d
def zIk (a b c:Nat):List TO:=zAc a b++zAg (a+1) c a
def zIm (a b c d e f:Nat):List TO:=zBa a b c++zBb a d a e a a f
def zIn (a b:Nat):List TO:=zEA a b++zBw (a+1) a
def zIo (a b c:Nat):List TO:=zIi a b++zAb c (a+1)
def zIp (a b c d:Nat):List TO:=zAj a b c d++zBz (a+1) a
def zIq (a b c d e:Nat):List TO:=zDr a b++zDs (a+1) c d a e
def zIr (a b c:Nat):List TO:=zIh a b c++zIk (a+2) (a+1) a
def zIs (a b c d:Nat):List TO:=zDm a b++zDn (a+1) c d a b
def zIt (a b c d:Nat):List TO:=zBC a b c++zBD d a (a+1)
def zIu (a b c d:Nat):List TO:=zAn a++zAp (a+1) b c a d
def zIv (a b c d e:Nat):List TO:=zIf a b c++zIf (a+2) d e
def zIw (a b c d:Nat):List TO:=zDr a b++zDs (a+1) c d a b
def zIx (a b c:Nat):List TO:=zBs a b c++zAb (c+1) c
def zIy (a b c:Nat):List TO:=zAb a b++zAc (a+1) c
def zIz (a b:Nat):List TO:=zAb a b++zAe (a+1) a
def zIA (a b c d e:Nat):List TO:=zDm a b++zDn (a+1) c d a e
def zIB (a b:Nat):List TO:=zAk a b++zAb b a
def zIC (a b c:Nat):List TO:=zIn a b++zEB (a+2) c (a+1)
def zID (a b c d e:Nat):List TO:=zGs a b c++zGt a d e b (b+1) (b+1)
def zIE (a b c d e:Nat):List TO:=zIh a b c++zIg (a+2) a (a+1) d e
def zJa (a b c d e:Nat):List TO:=zAb a b++zIg (a+1) c a d e
def zJb (a b c d:Nat):List TO:=zAs a b c++zAs b d b
def zJc (a b c:Nat):List TO:=zAb a b++zAb c a
def zJd (a b c d:Nat):List TO:=zAs a b c++zGo b d (a+1) b
def zJe (a b c d:Nat):List TO:=zBs a b c++zAb d c
def zJf (a:Nat):List TO:=zAn a++zBw (a+1) a
def zJg (a b c d:Nat):List TO:=zIt a b c d++zAb (a+2) (a+1)
def zJh (a b c d e f:Nat):List TO:=zAh a b c++zAi (a+1) d e a f
def zJi (a b c d:Nat):List TO:=zAx a b c++zAA (a+1) d a
def zJj (a b c d:Nat):List TO:=zAb a b++zAj (a+1) c d a
def zJk (a b:Nat):List TO:=zBz a b++zAb (a+1) a
def zJm (a b:Nat):List TO:=zAb a b++zAc (a+1) a
def zJn (a b c:Nat):List TO:=zAA a b c++zAn (a+1)
def zJo (a b c d:Nat):List TO:=zJn a b c++zAE a d (a+1) a
def zJp (a b:Nat):List TO:=zDk a b++zBo (a+1)
def zJq (a b c:Nat):List TO:=zIf a b c++zAc (a+2) (a+1)
def zJr (a b c:Nat):List TO:=zAh a b c++zBw (a+1) a
def zJs (a b c d e:Nat):List TO:=zAx a b c++zAj (a+1) d e a
def zJt (a b c:Nat):List TO:=zJf a++zAo (a+2) b c (a+1)
def zJu (a b c d:Nat):List TO:=zIy a b c++zDB (a+2) d (a+1)
def zJv (a b c d e f:Nat):List TO:=zIh a b c++zJa (a+2) d (a+1) e f
def zJw (a b c d e:Nat):List TO:=zBv a b c d++zAs c e c
def zJx (a b c d e:Nat):List TO:=zEa a b c d++zBD e a (a+1)
def zJy (a b c:Nat)(d:Int):List TO:=zIf a b c++zEi (a+2) (a+1) d
def zJz (a b c d e:Nat):List TO:=zJj a b c d++zAb e (a+1)
def zJA (a b c d e:Nat):List TO:=zJd a b c d++zGp (a+2) b e
def zJB (a b:Nat):List TO:=zAm a++zJp (a+1) b
def zJC (a b c d:Nat):List TO:=zIh a b c++zIk (a+2) (a+1) d
def zJD (a b c:Nat):List TO:=zAn a++zDb (a+1) b c a
def zJE (a b c:Nat):List TO:=zEz a++zAx (a+1) b c
def zKa (a b c d e f g:Nat):List TO:=zIv a b c d e++zDB f (a+1) g
def zKb (a b c d:Nat):List TO:=zDa a b c d++zAb (a+1) (b+1)
def zKc (a b c d e f:Nat):List TO:=zJr a b c++zBx (a+2) b d e (a+1) f
def zKd (a b c d e f g h i:Nat):List TO:=zIg a b c d e++zIg f (a+2) g h i
def zKe (a b c d e f g h i j:Nat):List TO:=zIh a b c++zKd d e f g h (a+2) (a+1) i j
def zKf (a b c d e f g h i j:Nat):List TO:=zIh a b c++zKe d e f (a+2) a (a+1) g h i j
def zKg (a b c d e:Nat):List TO:=zAn a++zAp (a+1) b c d e
def zKh (a:Nat):List TO:=zAm a++zBo (a+1)
def zKi (a b c d e f:Nat):List TO:=zAb a b++zIA (a+1) c d e f
def zKj (a b c d e f:Nat):List TO:=zIy a b c++zJu d e f (a+1)
def zKk (a b c:Nat):List TO:=zAb a b++zAe (a+1) c
def zKm (a b:Nat):List TO:=zJm a b++zAa (a+2)
def zKn (a b c d e f:Nat):List TO:=zDo a b c++zDp d e a (a+1) (a+1) f
def zKo (a b:Nat):List TO:=zDm a b++zEo (a+1) a b
def zKp (a b c d:Nat):List TO:=zKo a b++zDn (a+2) c d (a+1) b
def zKq (a b c d:Nat):List TO:=zIw a b c d++zEv (a+2) (a+1) b
def zKr (a b:Nat):List TO:=zEz a++zIC (a+1) a b
def zKs (a b c d:Nat):List TO:=zIh a b c++zAc d (a+1)
def zKt (a b:Nat)(c:Int)(d e f g h:Nat):List TO:=zBB a b c d e f++zJg (d+1) d g h
def zKu (a b c d e f:Nat):List TO:=zIf a b c++zJz (a+2) d e (a+1) f
def zKv (a b c d e f g:Nat):List TO:=zAh a b c++zGc (a+1) d e f a g
def zKw (a b c d e f g:Nat):List TO:=zAj a b c d++zJA a e a f g
def zKx (a b c d e:Nat):List TO:=zJr a b c++zAi (a+2) b d (a+1) e
def zKy (a b c d:Nat):List TO:=zAb a b++zBq (a+1) c d
def zKz (a b c d e f:Nat):List TO:=zAb a b++zIq (a+1) c d e f
def zKA (a b c:Nat):List TO:=zAn a++zAw b a c
def zKB (a b c d:Nat):List TO:=zIf a b c++zKA (a+2) d (a+1)
def zKC (a b c:Nat):List TO:=zIh a b c++zAg (a+2) a (a+1)
def zKD (a b c d e f g:Nat):List TO:=zEx a b c d++zEh e f a (a+1) (a+1) g
def zKE (a b c d e f:Nat):List TO:=zIs a b c d++zIs (a+2) b e f
def zLa (a b c d e f:Nat):List TO:=zDu a b c d e++zBD f c (c+1)
def zLb (a b c d e:Nat):List TO:=zGb a b++zJw c a (a+1) d e
def zLc (a b c d e f:Nat):List TO:=zIu a b c d++zIp (a+2) e f (a+1)
def zLd (a b c d e f g h:Nat):List TO:=zIj a b c d++zIj e f g h
def zLe (a b c d e:Nat):List TO:=zAx a b c++zAA (a+1) d e
def zLf (a b c d e:Nat):List TO:=zAh a b c++zAu b d a e
def zLg (a b c d e:Nat):List TO:=zIj a b c d++zAn e
def zLh (a b c d e f g:Nat):List TO:=zLg a b c d e++zAw f g (a+1)
def zLi (a b c d e:Nat):List TO:=zBA a b c++zDD (a+1) d a e
abbrev Zt0:=Int × Int × List Int × List (Int × Int) × List (List Int) × List Int × Int × Int × Int × Int × Int × Int × Int × List (Int × Int) × Int × List (Int × Int × Int × Int × Int × Int) × List (Int × Int × List (Int × Int × Int × Bool) × Int × Bool × List (Int × Int) × List Int) × List (List (ByteArray × ByteArray × Int)) × List (Bool) × List (Int × Int × ByteArray) × List (Int × Int × Int × Int × Int × Int × Int) × List (Int × Int × Int × Int × Int × Int × Int × Bool × List (Int × Int) × List Int × Int × Int × List (Int × Int) × Int)
abbrev Zt1:=Int × (Int × List Int × List (Int × Int) × List (List Int) × List Int × Int × Int × Int × Int × Int × Int × Int × List (Int × Int) × Int × List (Int × Int × Int × Int × Int × Int))
abbrev Zt2:=Int × List Int × List (Int × Int) × List (List Int) × List Int × Int × Int × Int × Int × Int × Int × Int × List (Int × Int) × Int × List (Int × Int × Int × Int × Int × Int) × Bool
abbrev Zt3:=Int × List Int × List (Int × Int) × List (List Int) × List Int × Int × Int × Int × Int × Int × Int × Int × List (Int × Int) × Int × List (Int × Int × Int × Int × Int × Int) × Int
abbrev Zt4:=Int × List Int × List (Int × Int) × List (List Int) × List Int × Int × Int × Int × Int × Int × Int × Int × List (Int × Int) × Int × List (Int × Int × Int × Int × Int × Int)
abbrev Zt5:=Int × Int × Int × Int × Int × Int × Int × Bool × (List (Int × Int)) × (List Int) × Int × Int × (List (Int × Int)) × Int
abbrev Zt6:=Int × Int × Int × Int × Int × Int × Int × Bool × List (Int × Int) × List Int × Int × Int × List (Int × Int) × Int
abbrev Zt7:=Int × Int × (List (Int × Int × Int × Bool)) × Int × Bool × (List (Int × Int)) × (List Int)
abbrev Zt8:=Int × Int × List (Int × Int × Int × Bool) × Int × Bool × List (Int × Int) × List Int
abbrev Zt9:=Int × Int × Int × Int × Int × Int × Int × List (Int × Int) × Int
abbrev Zt10:=Int × Bool × List (Int × Int) × List Int
abbrev Zt11:=Int × Int × Int × Int × Int × Int × Int
abbrev Zt12:=Int × List (Int × Int × Int × Bool)
abbrev Zt13:=Int × Int × List (Int × Int) × Int
abbrev Zt14:=Int × Int × Int × Int × Int × Int
abbrev Zt15:=Int × List (Int × Int) × Bool
abbrev Zt16:=Int × Int × Int × Bool
abbrev Zt17:=Int × List (Int × Int)
abbrev Zt18:=Int × Int × ByteArray
abbrev Zt19:=Int × Int × Int × Int
abbrev Zt20:=Int × Int
abbrev zK (E:TEnv) (K:FuncId) (s:Sig) (c:TC) (h:Nat) (j:Ou) (l:List Nat):Prop:=chkW PG E K s (c.ht h) j=some (c.wc E,l)
end Go.Fw
namespace Go.Fw
noncomputable section
def c_lszIntS:TC:=
 (zS [zAa 4] (zS [zKs 5 1 0 7,zAd 8 5 7,zAb 1 8] (zQ (zS [zKk 9 1 9] (zC 10 (zS [zAf] .ret) .skip)) (zS [zJc 11 1 4] .ret))))
def s_lszIntS:Sig:=⟨[.rd false Ct21,.rd false [.d]],(.one false [.d])⟩
def E_lszIntS:TEnv:=envOf []
def f_lszIntS (n:Nat):List Int × Int->Option ((Int) × Unit):=runFn n E_lszIntS c_lszIntS [[.sl [.i .i64]],[.i .i64]] [.i .i64] [] [4] .no
def g_lszIntS:=f_lszIntS BIG
def p_lszIntS:TSp:=⟨s_lszIntS,[[.sl [.i .i64]],[.i .i64]],[.i .i64],[],Ou.j .no,g_lszIntS⟩
theorem k_lszIntS:zK E_lszIntS 41 s_lszIntS c_lszIntS 12 .no [4]:=by show _=_;kernel_rfl
theorem ok_lszIntS:p_lszIntS.Ok PG 41:=mkOk (env_nil PG) k_lszIntS (by kernel_rfl)
theorem e_lszIntS (n) (a0) (a1):f_lszIntS n (a0,a1) = bif decide ((IntKind.wrap .i64 (a1-(a0.length:Int)))<0) then some ((-1:Int),()) else some (IntKind.wrap .i64 (a1-(a0.length:Int)),()):=by kernel_rfl
def c_lszEdgeS:TC:=
 (zS [zAa 4] (zS [zKs 5 1 0 7,zAd 8 5 7,zAb 1 8] (zQ (zS [zKk 9 1 9] (zC 10 (zS [zAf] .ret) .skip)) (zS [zJc 11 1 4] .ret))))
def s_lszEdgeS:Sig:=⟨[.rd false Ct20,.rd false [.d]],(.one false [.d])⟩
def E_lszEdgeS:TEnv:=envOf []
def f_lszEdgeS (n:Nat):(List Zt20) × Int->Option ((Int) × Unit):=runFn n E_lszEdgeS c_lszEdgeS [[.sl [.i .i64,.i .i64]],[.i .i64]] [.i .i64] [] [4] .no
def g_lszEdgeS:=f_lszEdgeS BIG
def p_lszEdgeS:TSp:=⟨s_lszEdgeS,[[.sl [.i .i64,.i .i64]],[.i .i64]],[.i .i64],[],Ou.j .no,g_lszEdgeS⟩
theorem k_lszEdgeS:zK E_lszEdgeS 42 s_lszEdgeS c_lszEdgeS 12 .no [4]:=by show _=_;kernel_rfl
theorem ok_lszEdgeS:p_lszEdgeS.Ok PG 42:=mkOk (env_nil PG) k_lszEdgeS (by kernel_rfl)
theorem e_lszEdgeS (n) (a0) (a1):f_lszEdgeS n (a0,a1) = bif decide ((IntKind.wrap .i64 (a1-(a0.length:Int)))<0) then some ((-1:Int),()) else some (IntKind.wrap .i64 (a1-(a0.length:Int)),()):=by kernel_rfl
def c_lszIntSS:TC:=
 (zS [zAa 4] (zS [zKs 6 1 0 8,zAd 9 6 8,zAb 1 9] (zQ (zS [zIz 10 1] (zC 11 (zS [zAf] .ret) .skip)) (zQ (.join [⟨1,[.i .i64],false⟩] 67104818 (some [⟨4,[.i .i64],false⟩]) (zS [zAa 5] (.block 0 (.loop [⟨1,[.i .i64],false⟩,⟨5,[.i .i64],false⟩] 67104818 (zQ (zS [zIr 12 5 0] (zC 15 .skip (.exit 0))) (zQ (.block 1 (zS [zIE 18 0 5 1 1,zJz 22 1 41 21 1] (zS [zIz 24 1] (zC 25 (zS [zAf] .ret) .skip)))) (zR [zIo 16 5 5]))))))) (zS [zJc 26 1 4] .ret)))))
def s_lszIntSS:Sig:=⟨[.rd false Ct11,.rd false [.d]],(.one false [.d])⟩
def E_lszIntSS:TEnv:=envOf [(41,p_lszIntS)]
def f_lszIntSS (n:Nat):List (List Int) × Int->Option ((Int) × Unit):=runFn n E_lszIntSS c_lszIntSS [[.sl [.sl [.i .i64]]],[.i .i64]] [.i .i64] [] [4] .no
def g_lszIntSS:=f_lszIntSS BIG
def p_lszIntSS:TSp:=⟨s_lszIntSS,[[.sl [.sl [.i .i64]]],[.i .i64]],[.i .i64],[],Ou.j .no,g_lszIntSS⟩
theorem k_lszIntSS:zK E_lszIntSS 43 s_lszIntSS c_lszIntSS 27 .no [4]:=by show _=_;kernel_rfl
theorem ok_lszIntSS:p_lszIntSS.Ok PG 43:=mkOk (env_cons ok_lszIntS (env_nil PG)) k_lszIntSS (by kernel_rfl)
theorem e_lszIntSS (n) (a0) (a1):f_lszIntSS n (a0,a1) = bif decide ((IntKind.wrap .i64 (a1-(a0.length:Int)))<0) then some ((-1:Int),()) else (loopT n (X:=Int × Int) (B:=(Int) ⊕ (Int)) (fun self1 x0=> bif decide (x0.2<(a0.length:Int)) then bnd a0.length x0.2 fun n2=> a0[n2]?.bind fun y3=> (g_lszIntS (y3,x0.1)).bind fun r4=> bif decide (r4.1<0) then some (Sum.inr (-1:Int)) else self1 (r4.1,IntKind.wrap .i64 (x0.2+1)) else some (Sum.inl x0.1)) (IntKind.wrap .i64 (a1-(a0.length:Int)),(0:Int))).bind fun y=>match y with | .inl x5=> some (x5,()) | .inr x5=> some (x5,()):=by kernel_rfl
def c_lszOrder:TC:=
 (zS [zAm 2,zAa 4] (zS [zIj 5 2 2 5,zAb 7 1,zAj 8 42 6 7,zAb 1 8] (zQ (zS [zKk 9 1 9] (zC 10 (zS [zAf] .ret) .skip)) (zS [zJc 11 1 4] .ret))))
def s_lszOrder:Sig:=⟨[.rd true Ct14,.rd false [.d]],(.one false [.d])⟩
def E_lszOrder:TEnv:=envOf [(42,p_lszEdgeS)]
def f_lszOrder (n:Nat):Zt13 × Int->Option ((Int) × Unit):=runFn n E_lszOrder c_lszOrder [Ty14,[.i .i64]] [.i .i64] [] [4] .no
def g_lszOrder:=f_lszOrder BIG
def p_lszOrder:TSp:=⟨s_lszOrder,[Ty14,[.i .i64]],[.i .i64],[],Ou.j .no,g_lszOrder⟩
theorem k_lszOrder:zK E_lszOrder 89 s_lszOrder c_lszOrder 12 .no [4]:=by show _=_;kernel_rfl
theorem ok_lszOrder:p_lszOrder.Ok PG 89:=mkOk (env_cons ok_lszEdgeS (env_nil PG)) k_lszOrder (by kernel_rfl)
theorem e_lszOrder (n) (a0) (a1):f_lszOrder n (a0,a1) = (g_lszEdgeS (a0.2.2.1,a1)).bind fun r0=> bif decide (r0.1<0) then some ((-1:Int),()) else some (r0.1,()):=by kernel_rfl
def c_lszTask:TC:=
 (zS [zAm 2,zAa 4] (zS [zKg 5 2 5 5 4,zAb 7 1,zAj 8 89 6 7,zAb 1 8] (zQ (zS [zKk 9 1 9] (zC 10 (zS [zAf] .ret) .skip)) (zS [zJc 11 1 4] .ret))))
def s_lszTask:Sig:=⟨[.rd true Ct8,.rd false [.d]],(.one false [.d])⟩
def E_lszTask:TEnv:=envOf [(89,p_lszOrder)]
def f_lszTask (n:Nat):Zt9 × Int->Option ((Int) × Unit):=runFn n E_lszTask c_lszTask [Ty8,[.i .i64]] [.i .i64] [] [4] .no
def g_lszTask:=f_lszTask BIG
def p_lszTask:TSp:=⟨s_lszTask,[Ty8,[.i .i64]],[.i .i64],[],Ou.j .no,g_lszTask⟩
theorem k_lszTask:zK E_lszTask 44 s_lszTask c_lszTask 12 .no [4]:=by show _=_;kernel_rfl
theorem ok_lszTask:p_lszTask.Ok PG 44:=mkOk (env_cons ok_lszOrder (env_nil PG)) k_lszTask (by kernel_rfl)
theorem e_lszTask (n) (a0) (a1):f_lszTask n (a0,a1) = (g_lszOrder (a0.2.2.2.2.2,a1)).bind fun r0=> bif decide (r0.1<0) then some ((-1:Int),()) else some (r0.1,()):=by kernel_rfl
def c_lszSaidS:TC:=
 (zS [zAa 4] (zS [zKs 5 1 0 7,zAd 8 5 7,zAb 1 8] (zQ (zS [zKk 9 1 9] (zC 10 (zS [zAf] .ret) .skip)) (zS [zJc 11 1 4] .ret))))
def s_lszSaidS:Sig:=⟨[.rd false Ct13,.rd false [.d]],(.one false [.d])⟩
def E_lszSaidS:TEnv:=envOf []
def f_lszSaidS (n:Nat):(List Zt14) × Int->Option ((Int) × Unit):=runFn n E_lszSaidS c_lszSaidS [Ty11,[.i .i64]] [.i .i64] [] [4] .no
def g_lszSaidS:=f_lszSaidS BIG
def p_lszSaidS:TSp:=⟨s_lszSaidS,[Ty11,[.i .i64]],[.i .i64],[],Ou.j .no,g_lszSaidS⟩
theorem k_lszSaidS:zK E_lszSaidS 45 s_lszSaidS c_lszSaidS 12 .no [4]:=by show _=_;kernel_rfl
theorem ok_lszSaidS:p_lszSaidS.Ok PG 45:=mkOk (env_nil PG) k_lszSaidS (by kernel_rfl)
theorem e_lszSaidS (n) (a0) (a1):f_lszSaidS n (a0,a1) = bif decide ((IntKind.wrap .i64 (a1-(a0.length:Int)))<0) then some ((-1:Int),()) else some (IntKind.wrap .i64 (a1-(a0.length:Int)),()):=by kernel_rfl
def c_lszHead:TC:=
 (zS [zAm 2,zAa 4] (zS [zIj 5 2 1 5,zAb 7 1,zAj 8 41 6 7,zAb 1 8] (zQ (zS [zKk 9 1 9] (zC 10 (zS [zAf] .ret) .skip)) (zS [zKu 11 2 2 1 42 1] (zQ (zS [zIz 15 1] (zC 16 (zS [zAf] .ret) .skip)) (zS [zKu 17 2 3 1 43 1] (zQ (zS [zIz 21 1] (zC 22 (zS [zAf] .ret) .skip)) (zS [zKu 23 2 4 1 41 1] (zQ (zS [zIz 27 1] (zC 28 (zS [zAf] .ret) .skip)) (zS [zIu 29 2 5 9,zJz 31 1 44 30 1] (zQ (zS [zIz 33 1] (zC 34 (zS [zAf] .ret) .skip)) (zS [zKu 35 2 14 1 45 1] (zQ (zS [zIz 39 1] (zC 40 (zS [zAf] .ret) .skip)) (zS [zJc 41 1 4] .ret))))))))))))))
def s_lszHead:Sig:=⟨[.rd true Ct2,.rd false [.d]],(.one false [.d])⟩
def E_lszHead:TEnv:=envOf [(41,p_lszIntS),(42,p_lszEdgeS),(43,p_lszIntSS),(44,p_lszTask),(45,p_lszSaidS)]
def f_lszHead (n:Nat):Zt4 × Int->Option ((Int) × Unit):=runFn n E_lszHead c_lszHead [Ty3,[.i .i64]] [.i .i64] [] [4] .no
def g_lszHead:=f_lszHead BIG
def p_lszHead:TSp:=⟨s_lszHead,[Ty3,[.i .i64]],[.i .i64],[],Ou.j .no,g_lszHead⟩
theorem k_lszHead:zK E_lszHead 9 s_lszHead c_lszHead 42 .no [4]:=by show _=_;kernel_rfl
theorem ok_lszHead:p_lszHead.Ok PG 9:=mkOk (env_cons ok_lszIntS (env_cons ok_lszEdgeS (env_cons ok_lszIntSS (env_cons ok_lszTask (env_cons ok_lszSaidS (env_nil PG)))))) k_lszHead (by kernel_rfl)
theorem e_lszHead (n) (a0) (a1):f_lszHead n (a0,a1) = (g_lszIntS (a0.2.1,a1)).bind fun r0=> bif decide (r0.1<0) then some ((-1:Int),()) else (g_lszEdgeS (a0.2.2.1,r0.1)).bind fun r1=> bif decide (r1.1<0) then some ((-1:Int),()) else (g_lszIntSS (a0.2.2.2.1,r1.1)).bind fun r2=> bif decide (r2.1<0) then some ((-1:Int),()) else (g_lszIntS (a0.2.2.2.2.1,r2.1)).bind fun r3=> bif decide (r3.1<0) then some ((-1:Int),()) else (g_lszTask ((a0.2.2.2.2.2.1,a0.2.2.2.2.2.2.1,a0.2.2.2.2.2.2.2.1,a0.2.2.2.2.2.2.2.2.1,a0.2.2.2.2.2.2.2.2.2.1,a0.2.2.2.2.2.2.2.2.2.2.1,a0.2.2.2.2.2.2.2.2.2.2.2.1,a0.2.2.2.2.2.2.2.2.2.2.2.2.1,a0.2.2.2.2.2.2.2.2.2.2.2.2.2.1),r3.1)).bind fun r4=> bif decide (r4.1<0) then some ((-1:Int),()) else (g_lszSaidS (a0.2.2.2.2.2.2.2.2.2.2.2.2.2.2,r4.1)).bind fun r5=> bif decide (r5.1<0) then some ((-1:Int),()) else some (r5.1,()):=by kernel_rfl
def c_lszLedgeS:TC:=
 (zS [zAa 4] (zS [zKs 5 1 0 7,zAd 8 5 7,zAb 1 8] (zQ (zS [zKk 9 1 9] (zC 10 (zS [zAf] .ret) .skip)) (zS [zJc 11 1 4] .ret))))
def s_lszLedgeS:Sig:=⟨[.rd false Ct16,.rd false [.d]],(.one false [.d])⟩
def E_lszLedgeS:TEnv:=envOf []
def f_lszLedgeS (n:Nat):(List Zt16) × Int->Option ((Int) × Unit):=runFn n E_lszLedgeS c_lszLedgeS [Ty17,[.i .i64]] [.i .i64] [] [4] .no
def g_lszLedgeS:=f_lszLedgeS BIG
def p_lszLedgeS:TSp:=⟨s_lszLedgeS,[Ty17,[.i .i64]],[.i .i64],[],Ou.j .no,g_lszLedgeS⟩
theorem k_lszLedgeS:zK E_lszLedgeS 137 s_lszLedgeS c_lszLedgeS 12 .no [4]:=by show _=_;kernel_rfl
theorem ok_lszLedgeS:p_lszLedgeS.Ok PG 137:=mkOk (env_nil PG) k_lszLedgeS (by kernel_rfl)
theorem e_lszLedgeS (n) (a0) (a1):f_lszLedgeS n (a0,a1) = bif decide ((IntKind.wrap .i64 (a1-(a0.length:Int)))<0) then some ((-1:Int),()) else some (IntKind.wrap .i64 (a1-(a0.length:Int)),()):=by kernel_rfl
def c_lszWeb:TC:=
 (zS [zAm 2,zAa 4] (zS [zIj 5 2 1 5,zAb 7 1,zAj 8 137 6 7,zAb 1 8] (zQ (zS [zKk 9 1 9] (zC 10 (zS [zAf] .ret) .skip)) (zS [zJc 11 1 4] .ret))))
def s_lszWeb:Sig:=⟨[.rd true Ct15,.rd false [.d]],(.one false [.d])⟩
def E_lszWeb:TEnv:=envOf [(137,p_lszLedgeS)]
def f_lszWeb (n:Nat):Zt12 × Int->Option ((Int) × Unit):=runFn n E_lszWeb c_lszWeb [Ty15,[.i .i64]] [.i .i64] [] [4] .no
def g_lszWeb:=f_lszWeb BIG
def p_lszWeb:TSp:=⟨s_lszWeb,[Ty15,[.i .i64]],[.i .i64],[],Ou.j .no,g_lszWeb⟩
theorem k_lszWeb:zK E_lszWeb 90 s_lszWeb c_lszWeb 12 .no [4]:=by show _=_;kernel_rfl
theorem ok_lszWeb:p_lszWeb.Ok PG 90:=mkOk (env_cons ok_lszLedgeS (env_nil PG)) k_lszWeb (by kernel_rfl)
theorem e_lszWeb (n) (a0) (a1):f_lszWeb n (a0,a1) = (g_lszLedgeS (a0.2,a1)).bind fun r0=> bif decide (r0.1<0) then some ((-1:Int),()) else some (r0.1,()):=by kernel_rfl
def c_lszAnswer:TC:=
 (zS [zAm 2,zAa 4] (zS [zIj 5 2 2 5,zAb 7 1,zAj 8 42 6 7,zAb 1 8] (zQ (zS [zKk 9 1 9] (zC 10 (zS [zAf] .ret) .skip)) (zS [zKu 11 2 3 1 41 1] (zQ (zS [zIz 15 1] (zC 16 (zS [zAf] .ret) .skip)) (zS [zJc 17 1 4] .ret))))))
def s_lszAnswer:Sig:=⟨[.rd true Ct7,.rd false [.d]],(.one false [.d])⟩
def E_lszAnswer:TEnv:=envOf [(42,p_lszEdgeS),(41,p_lszIntS)]
def f_lszAnswer (n:Nat):Zt10 × Int->Option ((Int) × Unit):=runFn n E_lszAnswer c_lszAnswer [Ty13,[.i .i64]] [.i .i64] [] [4] .no
def g_lszAnswer:=f_lszAnswer BIG
def p_lszAnswer:TSp:=⟨s_lszAnswer,[Ty13,[.i .i64]],[.i .i64],[],Ou.j .no,g_lszAnswer⟩
theorem k_lszAnswer:zK E_lszAnswer 91 s_lszAnswer c_lszAnswer 18 .no [4]:=by show _=_;kernel_rfl
theorem ok_lszAnswer:p_lszAnswer.Ok PG 91:=mkOk (env_cons ok_lszEdgeS (env_cons ok_lszIntS (env_nil PG))) k_lszAnswer (by kernel_rfl)
theorem e_lszAnswer (n) (a0) (a1):f_lszAnswer n (a0,a1) = (g_lszEdgeS (a0.2.2.1,a1)).bind fun r0=> bif decide (r0.1<0) then some ((-1:Int),()) else (g_lszIntS (a0.2.2.2,r0.1)).bind fun r1=> bif decide (r1.1<0) then some ((-1:Int),()) else some (r1.1,()):=by kernel_rfl
def c_lszShard:TC:=
 (zS [zAm 2,zAa 4] (zS [zKg 5 2 1 5 2,zAb 7 1,zAj 8 90 6 7,zAb 1 8] (zQ (zS [zKk 9 1 9] (zC 10 (zS [zAf] .ret) .skip)) (zS [zIu 11 2 3 4,zJz 13 1 91 12 1] (zQ (zS [zIz 15 1] (zC 16 (zS [zAf] .ret) .skip)) (zS [zJc 17 1 4] .ret))))))
def s_lszShard:Sig:=⟨[.rd true Ct6,.rd false [.d]],(.one false [.d])⟩
def E_lszShard:TEnv:=envOf [(90,p_lszWeb),(91,p_lszAnswer)]
def f_lszShard (n:Nat):Zt8 × Int->Option ((Int) × Unit):=runFn n E_lszShard c_lszShard [Ty7,[.i .i64]] [.i .i64] [] [4] .no
def g_lszShard:=f_lszShard BIG
def p_lszShard:TSp:=⟨s_lszShard,[Ty7,[.i .i64]],[.i .i64],[],Ou.j .no,g_lszShard⟩
theorem k_lszShard:zK E_lszShard 46 s_lszShard c_lszShard 18 .no [4]:=by show _=_;kernel_rfl
theorem ok_lszShard:p_lszShard.Ok PG 46:=mkOk (env_cons ok_lszWeb (env_cons ok_lszAnswer (env_nil PG))) k_lszShard (by kernel_rfl)
theorem e_lszShard (n) (a0) (a1):f_lszShard n (a0,a1) = (g_lszWeb ((a0.2.1,a0.2.2.1),a1)).bind fun r0=> bif decide (r0.1<0) then some ((-1:Int),()) else (g_lszAnswer (a0.2.2.2,r0.1)).bind fun r1=> bif decide (r1.1<0) then some ((-1:Int),()) else some (r1.1,()):=by kernel_rfl
def c_lszShardS:TC:=
 (zS [zAa 4] (zS [zKs 6 1 0 8,zAd 9 6 8,zAb 1 9] (zQ (zS [zIz 10 1] (zC 11 (zS [zAf] .ret) .skip)) (zQ (.join [⟨1,[.i .i64],false⟩] 67104818 (some [⟨4,[.i .i64],false⟩]) (zS [zAa 5] (.block 0 (.loop [⟨1,[.i .i64],false⟩,⟨5,[.i .i64],false⟩] 67104818 (zQ (zS [zIr 12 5 0] (zC 15 .skip (.exit 0))) (zQ (.block 1 (zS [zIE 18 0 5 7 7,zJz 22 1 46 21 1] (zS [zIz 24 1] (zC 25 (zS [zAf] .ret) .skip)))) (zR [zIo 16 5 5]))))))) (zS [zJc 26 1 4] .ret)))))
def s_lszShardS:Sig:=⟨[.rd false Ct4,.rd false [.d]],(.one false [.d])⟩
def E_lszShardS:TEnv:=envOf [(46,p_lszShard)]
def f_lszShardS (n:Nat):(List Zt8) × Int->Option ((Int) × Unit):=runFn n E_lszShardS c_lszShardS [Ty6,[.i .i64]] [.i .i64] [] [4] .no
def g_lszShardS:=f_lszShardS BIG
def p_lszShardS:TSp:=⟨s_lszShardS,[Ty6,[.i .i64]],[.i .i64],[],Ou.j .no,g_lszShardS⟩
theorem k_lszShardS:zK E_lszShardS 10 s_lszShardS c_lszShardS 27 .no [4]:=by show _=_;kernel_rfl
theorem ok_lszShardS:p_lszShardS.Ok PG 10:=mkOk (env_cons ok_lszShard (env_nil PG)) k_lszShardS (by kernel_rfl)
theorem e_lszShardS (n) (a0) (a1):f_lszShardS n (a0,a1) = bif decide ((IntKind.wrap .i64 (a1-(a0.length:Int)))<0) then some ((-1:Int),()) else (loopT n (X:=Int × Int) (B:=(Int) ⊕ (Int)) (fun self1 x0=> bif decide (x0.2<(a0.length:Int)) then bnd a0.length x0.2 fun n2=> a0[n2]?.bind fun y3=> (g_lszShard (y3,x0.1)).bind fun r4=> bif decide (r4.1<0) then some (Sum.inr (-1:Int)) else self1 (r4.1,IntKind.wrap .i64 (x0.2+1)) else some (Sum.inl x0.1)) (IntKind.wrap .i64 (a1-(a0.length:Int)),(0:Int))).bind fun y=>match y with | .inl x5=> some (x5,()) | .inr x5=> some (x5,()):=by kernel_rfl
def c_lszFile:TC:=
 (zS [zAm 2,zAa 4] (zS [zAb 5 1,zIj 6 2 0 6,zAq 8 7,zAd 9 5 8,zAb 1 9] (zQ (zS [zIz 10 1] (zC 11 (zS [zAf] .ret) .skip)) (zS [zAb 12 1,zIf 13 2 1,zAq 15 14,zAd 16 12 15,zAb 1 16] (zQ (zS [zIz 17 1] (zC 18 (zS [zAf] .ret) .skip)) (zS [zJc 19 1 4] .ret))))))
def s_lszFile:Sig:=⟨[.rd true [.d,.d,.d],.rd false [.d]],(.one false [.d])⟩
def E_lszFile:TEnv:=envOf []
def f_lszFile (n:Nat):(ByteArray × ByteArray × Int) × Int->Option ((Int) × Unit):=runFn n E_lszFile c_lszFile [[.s,.s,.i .i64],[.i .i64]] [.i .i64] [] [4] .no
def g_lszFile:=f_lszFile BIG
def p_lszFile:TSp:=⟨s_lszFile,[[.s,.s,.i .i64],[.i .i64]],[.i .i64],[],Ou.j .no,g_lszFile⟩
theorem k_lszFile:zK E_lszFile 138 s_lszFile c_lszFile 20 .no [4]:=by show _=_;kernel_rfl
theorem ok_lszFile:p_lszFile.Ok PG 138:=mkOk (env_nil PG) k_lszFile (by kernel_rfl)
theorem e_lszFile (n) (a0) (a1):f_lszFile n (a0,a1) = bif decide ((IntKind.wrap .i64 (a1-(a0.1.size:Int)))<0) then some ((-1:Int),()) else bif decide ((IntKind.wrap .i64 ((IntKind.wrap .i64 (a1-(a0.1.size:Int)))-(a0.2.1.size:Int)))<0) then some ((-1:Int),()) else some (IntKind.wrap .i64 ((IntKind.wrap .i64 (a1-(a0.1.size:Int)))-(a0.2.1.size:Int)),()):=by kernel_rfl
def c_lszFileS:TC:=
 (zS [zAa 4] (zS [zKs 6 1 0 8,zAd 9 6 8,zAb 1 9] (zQ (zS [zIz 10 1] (zC 11 (zS [zAf] .ret) .skip)) (zQ (.join [⟨1,[.i .i64],false⟩] 67104818 (some [⟨4,[.i .i64],false⟩]) (zS [zAa 5] (.block 0 (.loop [⟨1,[.i .i64],false⟩,⟨5,[.i .i64],false⟩] 67104818 (zQ (zS [zIr 12 5 0] (zC 15 .skip (.exit 0))) (zQ (.block 1 (zS [zIE 18 0 5 3 3,zJz 22 1 138 21 1] (zS [zIz 24 1] (zC 25 (zS [zAf] .ret) .skip)))) (zR [zIo 16 5 5]))))))) (zS [zJc 26 1 4] .ret)))))
def s_lszFileS:Sig:=⟨[.rd false Ct18,.rd false [.d]],(.one false [.d])⟩
def E_lszFileS:TEnv:=envOf [(138,p_lszFile)]
def f_lszFileS (n:Nat):(List (ByteArray × ByteArray × Int)) × Int->Option ((Int) × Unit):=runFn n E_lszFileS c_lszFileS [[.sl [.s,.s,.i .i64]],[.i .i64]] [.i .i64] [] [4] .no
def g_lszFileS:=f_lszFileS BIG
def p_lszFileS:TSp:=⟨s_lszFileS,[[.sl [.s,.s,.i .i64]],[.i .i64]],[.i .i64],[],Ou.j .no,g_lszFileS⟩
theorem k_lszFileS:zK E_lszFileS 92 s_lszFileS c_lszFileS 27 .no [4]:=by show _=_;kernel_rfl
theorem ok_lszFileS:p_lszFileS.Ok PG 92:=mkOk (env_cons ok_lszFile (env_nil PG)) k_lszFileS (by kernel_rfl)
theorem e_lszFileS (n) (a0) (a1):f_lszFileS n (a0,a1) = bif decide ((IntKind.wrap .i64 (a1-(a0.length:Int)))<0) then some ((-1:Int),()) else (loopT n (X:=Int × Int) (B:=(Int) ⊕ (Int)) (fun self1 x0=> bif decide (x0.2<(a0.length:Int)) then bnd a0.length x0.2 fun n2=> a0[n2]?.bind fun y3=> (g_lszFile (y3,x0.1)).bind fun r4=> bif decide (r4.1<0) then some (Sum.inr (-1:Int)) else self1 (r4.1,IntKind.wrap .i64 (x0.2+1)) else some (Sum.inl x0.1)) (IntKind.wrap .i64 (a1-(a0.length:Int)),(0:Int))).bind fun y=>match y with | .inl x5=> some (x5,()) | .inr x5=> some (x5,()):=by kernel_rfl
def c_lszDisk:TC:=
 (zS [zAm 2,zAa 4] (zS [zIj 5 2 0 5,zAb 7 1,zAj 8 92 6 7,zAb 1 8] (zQ (zS [zKk 9 1 9] (zC 10 (zS [zAf] .ret) .skip)) (zS [zJc 11 1 4] .ret))))
def s_lszDisk:Sig:=⟨[.rd true Ct18,.rd false [.d]],(.one false [.d])⟩
def E_lszDisk:TEnv:=envOf [(92,p_lszFileS)]
def f_lszDisk (n:Nat):(List (ByteArray × ByteArray × Int)) × Int->Option ((Int) × Unit):=runFn n E_lszDisk c_lszDisk [[.sl [.s,.s,.i .i64]],[.i .i64]] [.i .i64] [] [4] .no
def g_lszDisk:=f_lszDisk BIG
def p_lszDisk:TSp:=⟨s_lszDisk,[[.sl [.s,.s,.i .i64]],[.i .i64]],[.i .i64],[],Ou.j .no,g_lszDisk⟩
theorem k_lszDisk:zK E_lszDisk 47 s_lszDisk c_lszDisk 12 .no [4]:=by show _=_;kernel_rfl
theorem ok_lszDisk:p_lszDisk.Ok PG 47:=mkOk (env_cons ok_lszFileS (env_nil PG)) k_lszDisk (by kernel_rfl)
theorem e_lszDisk (n) (a0) (a1):f_lszDisk n (a0,a1) = (g_lszFileS (a0,a1)).bind fun r0=> bif decide (r0.1<0) then some ((-1:Int),()) else some (r0.1,()):=by kernel_rfl
def c_lszDiskS:TC:=
 (zS [zAa 4] (zS [zKs 6 1 0 8,zAd 9 6 8,zAb 1 9] (zQ (zS [zIz 10 1] (zC 11 (zS [zAf] .ret) .skip)) (zQ (.join [⟨1,[.i .i64],false⟩] 67104818 (some [⟨4,[.i .i64],false⟩]) (zS [zAa 5] (.block 0 (.loop [⟨1,[.i .i64],false⟩,⟨5,[.i .i64],false⟩] 67104818 (zQ (zS [zIr 12 5 0] (zC 15 .skip (.exit 0))) (zQ (.block 1 (zS [zIE 18 0 5 1 1,zJz 22 1 47 21 1] (zS [zIz 24 1] (zC 25 (zS [zAf] .ret) .skip)))) (zR [zIo 16 5 5]))))))) (zS [zJc 26 1 4] .ret)))))
def s_lszDiskS:Sig:=⟨[.rd false Ct9,.rd false [.d]],(.one false [.d])⟩
def E_lszDiskS:TEnv:=envOf [(47,p_lszDisk)]
def f_lszDiskS (n:Nat):(List (List (ByteArray × ByteArray × Int))) × Int->Option ((Int) × Unit):=runFn n E_lszDiskS c_lszDiskS [Ty23,[.i .i64]] [.i .i64] [] [4] .no
def g_lszDiskS:=f_lszDiskS BIG
def p_lszDiskS:TSp:=⟨s_lszDiskS,[Ty23,[.i .i64]],[.i .i64],[],Ou.j .no,g_lszDiskS⟩
theorem k_lszDiskS:zK E_lszDiskS 11 s_lszDiskS c_lszDiskS 27 .no [4]:=by show _=_;kernel_rfl
theorem ok_lszDiskS:p_lszDiskS.Ok PG 11:=mkOk (env_cons ok_lszDisk (env_nil PG)) k_lszDiskS (by kernel_rfl)
theorem e_lszDiskS (n) (a0) (a1):f_lszDiskS n (a0,a1) = bif decide ((IntKind.wrap .i64 (a1-(a0.length:Int)))<0) then some ((-1:Int),()) else (loopT n (X:=Int × Int) (B:=(Int) ⊕ (Int)) (fun self1 x0=> bif decide (x0.2<(a0.length:Int)) then bnd a0.length x0.2 fun n2=> a0[n2]?.bind fun y3=> (g_lszDisk (y3,x0.1)).bind fun r4=> bif decide (r4.1<0) then some (Sum.inr (-1:Int)) else self1 (r4.1,IntKind.wrap .i64 (x0.2+1)) else some (Sum.inl x0.1)) (IntKind.wrap .i64 (a1-(a0.length:Int)),(0:Int))).bind fun y=>match y with | .inl x5=> some (x5,()) | .inr x5=> some (x5,()):=by kernel_rfl
def c_lszBoolS:TC:=
 (zS [zAa 4] (zS [zKs 5 1 0 7,zAd 8 5 7,zAb 1 8] (zQ (zS [zKk 9 1 9] (zC 10 (zS [zAf] .ret) .skip)) (zS [zJc 11 1 4] .ret))))
def s_lszBoolS:Sig:=⟨[.rd false Ct21,.rd false [.d]],(.one false [.d])⟩
def E_lszBoolS:TEnv:=envOf []
def f_lszBoolS (n:Nat):List (Bool) × Int->Option ((Int) × Unit):=runFn n E_lszBoolS c_lszBoolS [[.sl [.b]],[.i .i64]] [.i .i64] [] [4] .no
def g_lszBoolS:=f_lszBoolS BIG
def p_lszBoolS:TSp:=⟨s_lszBoolS,[[.sl [.b]],[.i .i64]],[.i .i64],[],Ou.j .no,g_lszBoolS⟩
theorem k_lszBoolS:zK E_lszBoolS 12 s_lszBoolS c_lszBoolS 12 .no [4]:=by show _=_;kernel_rfl
theorem ok_lszBoolS:p_lszBoolS.Ok PG 12:=mkOk (env_nil PG) k_lszBoolS (by kernel_rfl)
theorem e_lszBoolS (n) (a0) (a1):f_lszBoolS n (a0,a1) = bif decide ((IntKind.wrap .i64 (a1-(a0.length:Int)))<0) then some ((-1:Int),()) else some (IntKind.wrap .i64 (a1-(a0.length:Int)),()):=by kernel_rfl
def c_lszPacket:TC:=
 (zS [zAm 2,zAa 4] (zS [zAb 5 1,zIj 6 2 2 6,zAq 8 7,zAd 9 5 8,zAb 1 9] (zQ (zS [zIz 10 1] (zC 11 (zS [zAf] .ret) .skip)) (zS [zJc 12 1 4] .ret))))
def s_lszPacket:Sig:=⟨[.rd true [.d,.d,.d],.rd false [.d]],(.one false [.d])⟩
def E_lszPacket:TEnv:=envOf []
def f_lszPacket (n:Nat):Zt18 × Int->Option ((Int) × Unit):=runFn n E_lszPacket c_lszPacket [[.i .i64,.i .i64,.s],[.i .i64]] [.i .i64] [] [4] .no
def g_lszPacket:=f_lszPacket BIG
def p_lszPacket:TSp:=⟨s_lszPacket,[[.i .i64,.i .i64,.s],[.i .i64]],[.i .i64],[],Ou.j .no,g_lszPacket⟩
theorem k_lszPacket:zK E_lszPacket 48 s_lszPacket c_lszPacket 13 .no [4]:=by show _=_;kernel_rfl
theorem ok_lszPacket:p_lszPacket.Ok PG 48:=mkOk (env_nil PG) k_lszPacket (by kernel_rfl)
theorem e_lszPacket (n) (a0) (a1):f_lszPacket n (a0,a1) = bif decide ((IntKind.wrap .i64 (a1-(a0.2.2.size:Int)))<0) then some ((-1:Int),()) else some (IntKind.wrap .i64 (a1-(a0.2.2.size:Int)),()):=by kernel_rfl
def c_lszPacketS:TC:=
 (zS [zAa 4] (zS [zKs 6 1 0 8,zAd 9 6 8,zAb 1 9] (zQ (zS [zIz 10 1] (zC 11 (zS [zAf] .ret) .skip)) (zQ (.join [⟨1,[.i .i64],false⟩] 67104818 (some [⟨4,[.i .i64],false⟩]) (zS [zAa 5] (.block 0 (.loop [⟨1,[.i .i64],false⟩,⟨5,[.i .i64],false⟩] 67104818 (zQ (zS [zIr 12 5 0] (zC 15 .skip (.exit 0))) (zQ (.block 1 (zS [zIE 18 0 5 3 3,zJz 22 1 48 21 1] (zS [zIz 24 1] (zC 25 (zS [zAf] .ret) .skip)))) (zR [zIo 16 5 5]))))))) (zS [zJc 26 1 4] .ret)))))
def s_lszPacketS:Sig:=⟨[.rd false Ct18,.rd false [.d]],(.one false [.d])⟩
def E_lszPacketS:TEnv:=envOf [(48,p_lszPacket)]
def f_lszPacketS (n:Nat):(List Zt18) × Int->Option ((Int) × Unit):=runFn n E_lszPacketS c_lszPacketS [Ty24,[.i .i64]] [.i .i64] [] [4] .no
def g_lszPacketS:=f_lszPacketS BIG
def p_lszPacketS:TSp:=⟨s_lszPacketS,[Ty24,[.i .i64]],[.i .i64],[],Ou.j .no,g_lszPacketS⟩
theorem k_lszPacketS:zK E_lszPacketS 13 s_lszPacketS c_lszPacketS 27 .no [4]:=by show _=_;kernel_rfl
theorem ok_lszPacketS:p_lszPacketS.Ok PG 13:=mkOk (env_cons ok_lszPacket (env_nil PG)) k_lszPacketS (by kernel_rfl)
theorem e_lszPacketS (n) (a0) (a1):f_lszPacketS n (a0,a1) = bif decide ((IntKind.wrap .i64 (a1-(a0.length:Int)))<0) then some ((-1:Int),()) else (loopT n (X:=Int × Int) (B:=(Int) ⊕ (Int)) (fun self1 x0=> bif decide (x0.2<(a0.length:Int)) then bnd a0.length x0.2 fun n2=> a0[n2]?.bind fun y3=> (g_lszPacket (y3,x0.1)).bind fun r4=> bif decide (r4.1<0) then some (Sum.inr (-1:Int)) else self1 (r4.1,IntKind.wrap .i64 (x0.2+1)) else some (Sum.inl x0.1)) (IntKind.wrap .i64 (a1-(a0.length:Int)),(0:Int))).bind fun y=>match y with | .inl x5=> some (x5,()) | .inr x5=> some (x5,()):=by kernel_rfl
def c_lszCallS:TC:=
 (zS [zAa 4] (zS [zKs 5 1 0 7,zAd 8 5 7,zAb 1 8] (zQ (zS [zKk 9 1 9] (zC 10 (zS [zAf] .ret) .skip)) (zS [zJc 11 1 4] .ret))))
def s_lszCallS:Sig:=⟨[.rd false Ct12,.rd false [.d]],(.one false [.d])⟩
def E_lszCallS:TEnv:=envOf []
def f_lszCallS (n:Nat):(List Zt11) × Int->Option ((Int) × Unit):=runFn n E_lszCallS c_lszCallS [Ty9,[.i .i64]] [.i .i64] [] [4] .no
def g_lszCallS:=f_lszCallS BIG
def p_lszCallS:TSp:=⟨s_lszCallS,[Ty9,[.i .i64]],[.i .i64],[],Ou.j .no,g_lszCallS⟩
theorem k_lszCallS:zK E_lszCallS 14 s_lszCallS c_lszCallS 12 .no [4]:=by show _=_;kernel_rfl
theorem ok_lszCallS:p_lszCallS.Ok PG 14:=mkOk (env_nil PG) k_lszCallS (by kernel_rfl)
theorem e_lszCallS (n) (a0) (a1):f_lszCallS n (a0,a1) = bif decide ((IntKind.wrap .i64 (a1-(a0.length:Int)))<0) then some ((-1:Int),()) else some (IntKind.wrap .i64 (a1-(a0.length:Int)),()):=by kernel_rfl
def c_lszRec:TC:=
 (zS [zAm 2,zAa 4] (zS [zAn 5,zAp 6 2 6 5 4,zAb 7 1,zAj 8 91 6 7,zAb 1 8] (zQ (zS [zKk 9 1 9] (zC 10 (zS [zAf] .ret) .skip)) (zS [zIu 11 2 10 4,zJz 13 1 89 12 1] (zQ (zS [zIz 15 1] (zC 16 (zS [zAf] .ret) .skip)) (zS [zJc 17 1 4] .ret))))))
def s_lszRec:Sig:=⟨[.rd true Ct5,.rd false [.d]],(.one false [.d])⟩
def E_lszRec:TEnv:=envOf [(91,p_lszAnswer),(89,p_lszOrder)]
def f_lszRec (n:Nat):Zt6 × Int->Option ((Int) × Unit):=runFn n E_lszRec c_lszRec [Ty5,[.i .i64]] [.i .i64] [] [4] .no
def g_lszRec:=f_lszRec BIG
def p_lszRec:TSp:=⟨s_lszRec,[Ty5,[.i .i64]],[.i .i64],[],Ou.j .no,g_lszRec⟩
theorem k_lszRec:zK E_lszRec 49 s_lszRec c_lszRec 18 .no [4]:=by show _=_;kernel_rfl
theorem ok_lszRec:p_lszRec.Ok PG 49:=mkOk (env_cons ok_lszAnswer (env_cons ok_lszOrder (env_nil PG))) k_lszRec (by kernel_rfl)
theorem e_lszRec (n) (a0) (a1):f_lszRec n (a0,a1) = (g_lszAnswer ((a0.2.2.2.2.2.2.1,a0.2.2.2.2.2.2.2.1,a0.2.2.2.2.2.2.2.2.1,a0.2.2.2.2.2.2.2.2.2.1),a1)).bind fun r0=> bif decide (r0.1<0) then some ((-1:Int),()) else (g_lszOrder (a0.2.2.2.2.2.2.2.2.2.2,r0.1)).bind fun r1=> bif decide (r1.1<0) then some ((-1:Int),()) else some (r1.1,()):=by kernel_rfl
def c_lszRecS:TC:=
 (zS [zAa 4] (zS [zKs 6 1 0 8,zAd 9 6 8,zAb 1 9] (zQ (zS [zIz 10 1] (zC 11 (zS [zAf] .ret) .skip)) (zQ (.join [⟨1,[.i .i64],false⟩] 67104818 (some [⟨4,[.i .i64],false⟩]) (zS [zAa 5] (.block 0 (.loop [⟨1,[.i .i64],false⟩,⟨5,[.i .i64],false⟩] 67104818 (zQ (zS [zIr 12 5 0] (zC 15 .skip (.exit 0))) (zQ (.block 1 (zS [zIE 18 0 5 14 14,zJz 22 1 49 21 1] (zS [zIz 24 1] (zC 25 (zS [zAf] .ret) .skip)))) (zR [zIo 16 5 5]))))))) (zS [zJc 26 1 4] .ret)))))
def s_lszRecS:Sig:=⟨[.rd false Ct3,.rd false [.d]],(.one false [.d])⟩
def E_lszRecS:TEnv:=envOf [(49,p_lszRec)]
def f_lszRecS (n:Nat):(List Zt6) × Int->Option ((Int) × Unit):=runFn n E_lszRecS c_lszRecS [Ty4,[.i .i64]] [.i .i64] [] [4] .no
def g_lszRecS:=f_lszRecS BIG
def p_lszRecS:TSp:=⟨s_lszRecS,[Ty4,[.i .i64]],[.i .i64],[],Ou.j .no,g_lszRecS⟩
theorem k_lszRecS:zK E_lszRecS 15 s_lszRecS c_lszRecS 27 .no [4]:=by show _=_;kernel_rfl
theorem ok_lszRecS:p_lszRecS.Ok PG 15:=mkOk (env_cons ok_lszRec (env_nil PG)) k_lszRecS (by kernel_rfl)
theorem e_lszRecS (n) (a0) (a1):f_lszRecS n (a0,a1) = bif decide ((IntKind.wrap .i64 (a1-(a0.length:Int)))<0) then some ((-1:Int),()) else (loopT n (X:=Int × Int) (B:=(Int) ⊕ (Int)) (fun self1 x0=> bif decide (x0.2<(a0.length:Int)) then bnd a0.length x0.2 fun n2=> a0[n2]?.bind fun y3=> (g_lszRec (y3,x0.1)).bind fun r4=> bif decide (r4.1<0) then some (Sum.inr (-1:Int)) else self1 (r4.1,IntKind.wrap .i64 (x0.2+1)) else some (Sum.inl x0.1)) (IntKind.wrap .i64 (a1-(a0.length:Int)),(0:Int))).bind fun y=>match y with | .inl x5=> some (x5,()) | .inr x5=> some (x5,()):=by kernel_rfl
def c_lszWorld:TC:=
 (zS [zAm 2,zAa 4] (zS [zKg 5 2 1 5 15,zAb 7 1,zAj 8 9 6 7,zAb 1 8] (zQ (zS [zKk 9 1 9] (zC 10 (zS [zAf] .ret) .skip)) (zS [zKu 11 2 16 1 10 1] (zQ (zS [zIz 15 1] (zC 16 (zS [zAf] .ret) .skip)) (zS [zAn 17,zAo 18 2 17 17,zJz 19 1 11 18 1] (zQ (zS [zIz 21 1] (zC 22 (zS [zAf] .ret) .skip)) (zS [zKu 23 2 18 1 12 1] (zQ (zS [zIz 27 1] (zC 28 (zS [zAf] .ret) .skip)) (zS [zKu 29 2 19 1 13 1] (zQ (zS [zIz 33 1] (zC 34 (zS [zAf] .ret) .skip)) (zS [zKu 35 2 20 1 14 1] (zQ (zS [zIz 39 1] (zC 40 (zS [zAf] .ret) .skip)) (zS [zKu 41 2 21 1 15 1] (zQ (zS [zIz 45 1] (zC 46 (zS [zAf] .ret) .skip)) (zS [zJc 47 1 4] .ret))))))))))))))))
def s_lszWorld:Sig:=⟨[.rd true Ct0,.rd false [.d]],(.one false [.d])⟩
def E_lszWorld:TEnv:=envOf [(9,p_lszHead),(10,p_lszShardS),(11,p_lszDiskS),(12,p_lszBoolS),(13,p_lszPacketS),(14,p_lszCallS),(15,p_lszRecS)]
def f_lszWorld (n:Nat):Zt0 × Int->Option ((Int) × Unit):=runFn n E_lszWorld c_lszWorld [Ty0,[.i .i64]] [.i .i64] [] [4] .no
def g_lszWorld:=f_lszWorld BIG
def p_lszWorld:TSp:=⟨s_lszWorld,[Ty0,[.i .i64]],[.i .i64],[],Ou.j .no,g_lszWorld⟩
theorem k_lszWorld:zK E_lszWorld 4 s_lszWorld c_lszWorld 48 .no [4]:=by show _=_;kernel_rfl
theorem ok_lszWorld:p_lszWorld.Ok PG 4:=mkOk (env_cons ok_lszHead (env_cons ok_lszShardS (env_cons ok_lszDiskS (env_cons ok_lszBoolS (env_cons ok_lszPacketS (env_cons ok_lszCallS (env_cons ok_lszRecS (env_nil PG)))))))) k_lszWorld (by kernel_rfl)
theorem e_lszWorld (n) (a0) (a1):f_lszWorld n (a0,a1) = (g_lszHead ((a0.2.1,a0.2.2.1,a0.2.2.2.1,a0.2.2.2.2.1,a0.2.2.2.2.2.1,a0.2.2.2.2.2.2.1,a0.2.2.2.2.2.2.2.1,a0.2.2.2.2.2.2.2.2.1,a0.2.2.2.2.2.2.2.2.2.1,a0.2.2.2.2.2.2.2.2.2.2.1,a0.2.2.2.2.2.2.2.2.2.2.2.1,a0.2.2.2.2.2.2.2.2.2.2.2.2.1,a0.2.2.2.2.2.2.2.2.2.2.2.2.2.1,a0.2.2.2.2.2.2.2.2.2.2.2.2.2.2.1,a0.2.2.2.2.2.2.2.2.2.2.2.2.2.2.2.1),a1)).bind fun r0=> bif decide (r0.1<0) then some ((-1:Int),()) else (g_lszShardS (a0.2.2.2.2.2.2.2.2.2.2.2.2.2.2.2.2.1,r0.1)).bind fun r1=> bif decide (r1.1<0) then some ((-1:Int),()) else (g_lszDiskS (a0.2.2.2.2.2.2.2.2.2.2.2.2.2.2.2.2.2.1,r1.1)).bind fun r2=> bif decide (r2.1<0) then some ((-1:Int),()) else (g_lszBoolS (a0.2.2.2.2.2.2.2.2.2.2.2.2.2.2.2.2.2.2.1,r2.1)).bind fun r3=> bif decide (r3.1<0) then some ((-1:Int),()) else (g_lszPacketS (a0.2.2.2.2.2.2.2.2.2.2.2.2.2.2.2.2.2.2.2.1,r3.1)).bind fun r4=> bif decide (r4.1<0) then some ((-1:Int),()) else (g_lszCallS (a0.2.2.2.2.2.2.2.2.2.2.2.2.2.2.2.2.2.2.2.2.1,r4.1)).bind fun r5=> bif decide (r5.1<0) then some ((-1:Int),()) else (g_lszRecS (a0.2.2.2.2.2.2.2.2.2.2.2.2.2.2.2.2.2.2.2.2.2,r5.1)).bind fun r6=> bif decide (r6.1<0) then some ((-1:Int),()) else some (r6.1,()):=by kernel_rfl
def c_ltoIntS:TC:=
 (zS [zAr 2] (zS [zIy 5 0 5,[o1 7 (.make (.t 6) [.i .i64])],zAs 7 3 7] (zQ (.join [⟨3,[.sl [.i .i64]],false⟩] 2096920 none (zS [zAa 4] (.block 0 (.loop [⟨3,[.sl [.i .i64]],false⟩,⟨4,[.i .i64],false⟩] 2096920 (zQ (zS [zJC 8 4 0 8] (zC 11 .skip (.exit 0))) (zQ (.block 1 (zR [zAt 14 3,zJv 15 4 0 4 1 1,zLf 20 14 15 1 19])) (zR [zIo 12 4 4]))))))) (zS [zJb 3 21 3 2] .ret))))
def s_ltoIntS:Sig:=⟨[.rd false Ct21],(.one false Ct21)⟩
def E_ltoIntS:TEnv:=envOf []
def f_ltoIntS (n:Nat):List (Int)->Option ((List Int) × Unit):=runFn n E_ltoIntS c_ltoIntS [[.sl [.i .i64]]] [.sl [.i .i64]] [] [2] .no
def g_ltoIntS:=f_ltoIntS BIG
def p_ltoIntS:TSp:=⟨s_ltoIntS,[[.sl [.i .i64]]],[.sl [.i .i64]],[],Ou.j .no,g_ltoIntS⟩
theorem k_ltoIntS:zK E_ltoIntS 55 s_ltoIntS c_ltoIntS 22 .no [2]:=by show _=_;kernel_rfl
theorem ok_ltoIntS:p_ltoIntS.Ok PG 55:=mkOk (env_nil PG) k_ltoIntS (by kernel_rfl)
theorem e_ltoIntS (n) (a0):f_ltoIntS n a0 = bif decide (0<=(a0.length:Int)) then bif decide ((Int.toNat (a0.length:Int))<=4294967296) then (loopT n (X:=(List Int) × Int) (B:=(List Int)) (fun self1 x0=> bif decide (x0.2<(a0.length:Int)) then bnd a0.length x0.2 fun n2=> a0[n2]?.bind fun y3=> bnd x0.1.length x0.2 fun n4=> x0.1[n4]?.bind fun y5=> self1 (x0.1.set n4 y3,IntKind.wrap .i64 (x0.2+1)) else some x0.1) (List.replicate (Int.toNat (a0.length:Int)) (0:Int),(0:Int))).bind fun x6=> some (x6,()) else none else none:=by kernel_rfl
def c_ltoEdge:TC:=
 (zS [zAm 1,zAv 2 1000000003] (zS [zAv 3 1000000004] (zS [zLh 4 1 0 4 6 0 6] (zS [zLh 7 1 1 7 9 1 9] (zS [zAx 10 3 2,zAy 2 2 10] .ret)))))
def s_ltoEdge:Sig:=⟨[.rd true [.d,.d]],(.one true [.d,.d])⟩
def E_ltoEdge:TEnv:=envOf []
def f_ltoEdge (n:Nat):Zt20->Option (Zt20 × Unit):=runFn n E_ltoEdge c_ltoEdge [[.i .i64,.i .i64]] [.i .i64,.i .i64] [] [2] .no
def g_ltoEdge:=f_ltoEdge BIG
def p_ltoEdge:TSp:=⟨s_ltoEdge,[[.i .i64,.i .i64]],[.i .i64,.i .i64],[],Ou.j .no,g_ltoEdge⟩
theorem k_ltoEdge:zK E_ltoEdge 106 s_ltoEdge c_ltoEdge 11 .no [2]:=by show _=_;kernel_rfl
theorem ok_ltoEdge:p_ltoEdge.Ok PG 106:=mkOk (env_nil PG) k_ltoEdge (by kernel_rfl)
theorem e_ltoEdge (n) (a0):f_ltoEdge n a0 = some (a0,()):=by kernel_rfl
def c_ltoEdgeS:TC:=
 (zS [zAz 2] (zS [zIy 5 0 5,[o1 7 (.make (.t 6) [.i .i64,.i .i64])],zAs 7 3 7] (zQ (.join [⟨3,[.sl [.i .i64,.i .i64]],false⟩] 4194072 none (zS [zAa 4] (.block 0 (.loop [⟨3,[.sl [.i .i64,.i .i64]],false⟩,⟨4,[.i .i64],false⟩] 4194072 (zQ (zS [zJC 8 4 0 8] (zC 11 .skip (.exit 0))) (zQ (.block 1 (zR [zAt 14 3,zJv 15 4 0 4 2 2,zAA 20 106 19,zLf 21 14 15 2 20])) (zR [zIo 12 4 4]))))))) (zS [zJb 3 22 3 2] .ret))))
def s_ltoEdgeS:Sig:=⟨[.rd false Ct20],(.one false Ct20)⟩
def E_ltoEdgeS:TEnv:=envOf [(106,p_ltoEdge)]
def f_ltoEdgeS (n:Nat):(List Zt20)->Option ((List Zt20) × Unit):=runFn n E_ltoEdgeS c_ltoEdgeS [[.sl [.i .i64,.i .i64]]] [.sl [.i .i64,.i .i64]] [] [2] .no
def g_ltoEdgeS:=f_ltoEdgeS BIG
def p_ltoEdgeS:TSp:=⟨s_ltoEdgeS,[[.sl [.i .i64,.i .i64]]],[.sl [.i .i64,.i .i64]],[],Ou.j .no,g_ltoEdgeS⟩
theorem k_ltoEdgeS:zK E_ltoEdgeS 56 s_ltoEdgeS c_ltoEdgeS 23 .no [2]:=by show _=_;kernel_rfl
theorem ok_ltoEdgeS:p_ltoEdgeS.Ok PG 56:=mkOk (env_cons ok_ltoEdge (env_nil PG)) k_ltoEdgeS (by kernel_rfl)
theorem e_ltoEdgeS (n) (a0):f_ltoEdgeS n a0 = bif decide (0<=(a0.length:Int)) then bif decide ((Int.toNat (a0.length:Int))<=4294967296) then (loopT n (X:=(List Zt20) × Int) (B:=(List Zt20)) (fun self1 x0=> bif decide (x0.2<(a0.length:Int)) then bnd a0.length x0.2 fun n2=> a0[n2]?.bind fun y3=> (g_ltoEdge y3).bind fun r4=> bnd x0.1.length x0.2 fun n5=> x0.1[n5]?.bind fun y6=> self1 (x0.1.set n5 r4.1,IntKind.wrap .i64 (x0.2+1)) else some x0.1) (List.replicate (Int.toNat (a0.length:Int)) ((0:Int),(0:Int)),(0:Int))).bind fun x7=> some (x7,()) else none else none:=by kernel_rfl
def c_ltoIntSS:TC:=
 (zS [[o1 2 (.lit [.sl [.sl [.i .i64]]] [.slice none 0 0])]] (zS [zIy 5 0 5,[o1 7 (.make (.t 6) [.sl [.i .i64]])],zAs 7 3 7] (zQ (.join [⟨3,[.sl [.sl [.i .i64]]],false⟩] 4194072 none (zS [zAa 4] (.block 0 (.loop [⟨3,[.sl [.sl [.i .i64]]],false⟩,⟨4,[.i .i64],false⟩] 4194072 (zQ (zS [zJC 8 4 0 8] (zC 11 .skip (.exit 0))) (zQ (.block 1 (zR [zAt 14 3,zJv 15 4 0 4 1 1,zAA 20 55 19,zAh 21 14 15,zAB 2 3 20 21 14 3 1 21 20])) (zR [zIo 12 4 4]))))))) (zS [zJb 3 22 3 2] .ret))))
def s_ltoIntSS:Sig:=⟨[.rd false Ct11],(.one false Ct11)⟩
def E_ltoIntSS:TEnv:=envOf [(55,p_ltoIntS)]
def f_ltoIntSS (n:Nat):List (List Int)->Option ((List (List Int)) × Unit):=runFn n E_ltoIntSS c_ltoIntSS [[.sl [.sl [.i .i64]]]] [.sl [.sl [.i .i64]]] [] [2] .no
def g_ltoIntSS:=f_ltoIntSS BIG
def p_ltoIntSS:TSp:=⟨s_ltoIntSS,[[.sl [.sl [.i .i64]]]],[.sl [.sl [.i .i64]]],[],Ou.j .no,g_ltoIntSS⟩
theorem k_ltoIntSS:zK E_ltoIntSS 57 s_ltoIntSS c_ltoIntSS 23 .no [2]:=by show _=_;kernel_rfl
theorem ok_ltoIntSS:p_ltoIntSS.Ok PG 57:=mkOk (env_cons ok_ltoIntS (env_nil PG)) k_ltoIntSS (by kernel_rfl)
theorem e_ltoIntSS (n) (a0):f_ltoIntSS n a0 = bif decide (0<=(a0.length:Int)) then bif decide ((Int.toNat (a0.length:Int))<=4294967296) then (loopT n (X:=(List (List Int)) × Int) (B:=(List (List Int))) (fun self1 x0=> bif decide (x0.2<(a0.length:Int)) then bnd a0.length x0.2 fun n2=> a0[n2]?.bind fun y3=> (g_ltoIntS y3).bind fun r4=> bnd x0.1.length x0.2 fun n5=> x0.1[n5]?.bind fun y6=> self1 (x0.1.set n5 r4.1,IntKind.wrap .i64 (x0.2+1)) else some x0.1) (List.replicate (Int.toNat (a0.length:Int)) [],(0:Int))).bind fun x7=> some (x7,()) else none else none:=by kernel_rfl
def c_ltoAsk:TC:=
 (zS [zAm 1,zAC 2 1000000003] (zS [zAC 3 1000000004] (zS [zLh 4 1 0 4 6 0 6] (zS [zLh 7 1 1 7 9 1 9] (zS [zKB 10 1 2 2] (zS [zKB 13 1 3 3] (zS [zAx 16 3 4,zAy 2 2 16] .ret)))))))
def s_ltoAsk:Sig:=⟨[.rd true [.d,.d,.d,.d]],(.one true [.d,.d,.d,.d])⟩
def E_ltoAsk:TEnv:=envOf []
def f_ltoAsk (n:Nat):Zt19->Option (Zt19 × Unit):=runFn n E_ltoAsk c_ltoAsk [Ty19] Ty19 [] [2] .no
def g_ltoAsk:=f_ltoAsk BIG
def p_ltoAsk:TSp:=⟨s_ltoAsk,[Ty19],Ty19,[],Ou.j .no,g_ltoAsk⟩
theorem k_ltoAsk:zK E_ltoAsk 107 s_ltoAsk c_ltoAsk 17 .no [2]:=by show _=_;kernel_rfl
theorem ok_ltoAsk:p_ltoAsk.Ok PG 107:=mkOk (env_nil PG) k_ltoAsk (by kernel_rfl)
theorem e_ltoAsk (n) (a0):f_ltoAsk n a0 = some (a0,()):=by kernel_rfl
def c_ltoOrder:TC:=
 (zS [zAm 1,zAD 2 1000000003] (zS [zAD 3 1000000004] (zS [zLh 4 1 0 4 6 0 6] (zS [zLh 7 1 1 7 9 1 9] (zS [zIf 10 1 2,zJo 12 56 11 2] (zS [zKB 14 1 3 3] (zS [zIm 17 3 4 2 2 3] .ret)))))))
def s_ltoOrder:Sig:=⟨[.rd true Ct14],(.one true Ct14)⟩
def E_ltoOrder:TEnv:=envOf [(56,p_ltoEdgeS)]
def f_ltoOrder (n:Nat):Zt13->Option (Zt13 × Unit):=runFn n E_ltoOrder c_ltoOrder [Ty14] Ty14 [] [2] .no
def g_ltoOrder:=f_ltoOrder BIG
def p_ltoOrder:TSp:=⟨s_ltoOrder,[Ty14],Ty14,[],Ou.j .no,g_ltoOrder⟩
theorem k_ltoOrder:zK E_ltoOrder 108 s_ltoOrder c_ltoOrder 18 .no [2]:=by show _=_;kernel_rfl
theorem ok_ltoOrder:p_ltoOrder.Ok PG 108:=mkOk (env_cons ok_ltoEdgeS (env_nil PG)) k_ltoOrder (by kernel_rfl)
theorem e_ltoOrder (n) (a0):f_ltoOrder n a0 = (g_ltoEdgeS a0.2.2.1).bind fun r0=> some ((a0.1,a0.2.1,r0.1,a0.2.2.2),()):=by kernel_rfl
def c_ltoTask:TC:=
 (zS [zAm 1,zBc 2 1000000003] (zS [zBc 3 1000000004] (zS [zKg 4 1 0 4 4,zJn 6 107 5,zAw 0 7 6] (zS [zIj 8 1 4 8,zKA 10 4 9] (zS [zIu 11 1 5 4,zJo 13 108 12 5] (zS [zIm 15 3 9 2 2 3] .ret))))))
def s_ltoTask:Sig:=⟨[.rd true Ct8],(.one true Ct8)⟩
def E_ltoTask:TEnv:=envOf [(107,p_ltoAsk),(108,p_ltoOrder)]
def f_ltoTask (n:Nat):Zt9->Option (Zt9 × Unit):=runFn n E_ltoTask c_ltoTask [Ty8] Ty8 [] [2] .no
def g_ltoTask:=f_ltoTask BIG
def p_ltoTask:TSp:=⟨s_ltoTask,[Ty8],Ty8,[],Ou.j .no,g_ltoTask⟩
theorem k_ltoTask:zK E_ltoTask 58 s_ltoTask c_ltoTask 16 .no [2]:=by show _=_;kernel_rfl
theorem ok_ltoTask:p_ltoTask.Ok PG 58:=mkOk (env_cons ok_ltoAsk (env_cons ok_ltoOrder (env_nil PG))) k_ltoTask (by kernel_rfl)
theorem e_ltoTask (n) (a0):f_ltoTask n a0 = (g_ltoAsk (a0.1,a0.2.1,a0.2.2.1,a0.2.2.2.1)).bind fun r0=> (g_ltoOrder a0.2.2.2.2.2).bind fun r1=> some ((r0.1.1,r0.1.2.1,r0.1.2.2.1,r0.1.2.2.2,a0.2.2.2.2.1,r1.1),()):=by kernel_rfl
def c_ltoSaid:TC:=
 (zS [zAm 1,zBd 2 1000000003] (zS [zBd 3 1000000004] (zS [zLh 4 1 0 4 6 0 6] (zS [zKg 7 1 1 7 4,zJn 9 107 8,zAw 1 10 9] (zS [zKB 11 1 5 5] (zS [zAx 14 3 6,zAy 2 2 14] .ret))))))
def s_ltoSaid:Sig:=⟨[.rd true Ct23],(.one true Ct23)⟩
def E_ltoSaid:TEnv:=envOf [(107,p_ltoAsk)]
def f_ltoSaid (n:Nat):Zt14->Option (Zt14 × Unit):=runFn n E_ltoSaid c_ltoSaid [Ty12] Ty12 [] [2] .no
def g_ltoSaid:=f_ltoSaid BIG
def p_ltoSaid:TSp:=⟨s_ltoSaid,[Ty12],Ty12,[],Ou.j .no,g_ltoSaid⟩
theorem k_ltoSaid:zK E_ltoSaid 109 s_ltoSaid c_ltoSaid 15 .no [2]:=by show _=_;kernel_rfl
theorem ok_ltoSaid:p_ltoSaid.Ok PG 109:=mkOk (env_cons ok_ltoAsk (env_nil PG)) k_ltoSaid (by kernel_rfl)
theorem e_ltoSaid (n) (a0):f_ltoSaid n a0 = (g_ltoAsk (a0.2.1,a0.2.2.1,a0.2.2.2.1,a0.2.2.2.2.1)).bind fun r0=> some ((a0.1,r0.1.1,r0.1.2.1,r0.1.2.2.1,r0.1.2.2.2,a0.2.2.2.2.2),()):=by kernel_rfl
def c_ltoSaidS:TC:=
 (zS [[o1 2 (.lit Ty11 [.slice none 0 0])]] (zS [zIy 5 0 5,[o1 7 (.make (.t 6) Ty12)],zAs 7 3 7] (zQ (.join [⟨3,Ty11,false⟩] 4194072 none (zS [zAa 4] (.block 0 (.loop [⟨3,Ty11,false⟩,⟨4,[.i .i64],false⟩] 4194072 (zQ (zS [zJC 8 4 0 8] (zC 11 .skip (.exit 0))) (zQ (.block 1 (zR [zAt 14 3,zJv 15 4 0 4 6 6,zAA 20 109 19,zLf 21 14 15 6 20])) (zR [zIo 12 4 4]))))))) (zS [zJb 3 22 3 2] .ret))))
def s_ltoSaidS:Sig:=⟨[.rd false Ct13],(.one false Ct13)⟩
def E_ltoSaidS:TEnv:=envOf [(109,p_ltoSaid)]
def f_ltoSaidS (n:Nat):(List Zt14)->Option ((List Zt14) × Unit):=runFn n E_ltoSaidS c_ltoSaidS [Ty11] Ty11 [] [2] .no
def g_ltoSaidS:=f_ltoSaidS BIG
def p_ltoSaidS:TSp:=⟨s_ltoSaidS,[Ty11],Ty11,[],Ou.j .no,g_ltoSaidS⟩
theorem k_ltoSaidS:zK E_ltoSaidS 59 s_ltoSaidS c_ltoSaidS 23 .no [2]:=by show _=_;kernel_rfl
theorem ok_ltoSaidS:p_ltoSaidS.Ok PG 59:=mkOk (env_cons ok_ltoSaid (env_nil PG)) k_ltoSaidS (by kernel_rfl)
theorem e_ltoSaidS (n) (a0):f_ltoSaidS n a0 = bif decide (0<=(a0.length:Int)) then bif decide ((Int.toNat (a0.length:Int))<=4294967296) then (loopT n (X:=(List Zt14) × Int) (B:=(List Zt14)) (fun self1 x0=> bif decide (x0.2<(a0.length:Int)) then bnd a0.length x0.2 fun n2=> a0[n2]?.bind fun y3=> (g_ltoSaid y3).bind fun r4=> bnd x0.1.length x0.2 fun n5=> x0.1[n5]?.bind fun y6=> self1 (x0.1.set n5 r4.1,IntKind.wrap .i64 (x0.2+1)) else some x0.1) (List.replicate (Int.toNat (a0.length:Int)) ((0:Int),(0:Int),(0:Int),(0:Int),(0:Int),(0:Int)),(0:Int))).bind fun x7=> some (x7,()) else none else none:=by kernel_rfl
def c_ltoHead:TC:=
 (zS [zAm 1,zBe 2 1000000003] (zS [zBe 3 1000000004] (zS [zLh 4 1 0 4 6 0 6] (zS [zIj 7 1 1 7,zJn 9 55 8,zAE 9 1 10 9] (zS [zIf 11 1 2,zJo 13 56 12 2] (zS [zIf 15 1 3,zJo 17 57 16 3] (zS [zIf 19 1 4,zJo 21 55 20 4] (zS [zIu 23 1 5 9,zJo 25 58 24 5] (zS [zIf 27 1 14,zJo 29 59 28 14] (zS [zIm 31 3 15 2 2 3] .ret))))))))))
def s_ltoHead:Sig:=⟨[.rd true Ct2],(.one true Ct2)⟩
def E_ltoHead:TEnv:=envOf [(55,p_ltoIntS),(56,p_ltoEdgeS),(57,p_ltoIntSS),(58,p_ltoTask),(59,p_ltoSaidS)]
def f_ltoHead (n:Nat):Zt4->Option (Zt4 × Unit):=runFn n E_ltoHead c_ltoHead [Ty3] Ty3 [] [2] .no
def g_ltoHead:=f_ltoHead BIG
def p_ltoHead:TSp:=⟨s_ltoHead,[Ty3],Ty3,[],Ou.j .no,g_ltoHead⟩
theorem k_ltoHead:zK E_ltoHead 21 s_ltoHead c_ltoHead 32 .no [2]:=by show _=_;kernel_rfl
theorem ok_ltoHead:p_ltoHead.Ok PG 21:=mkOk (env_cons ok_ltoIntS (env_cons ok_ltoEdgeS (env_cons ok_ltoIntSS (env_cons ok_ltoTask (env_cons ok_ltoSaidS (env_nil PG)))))) k_ltoHead (by kernel_rfl)
theorem e_ltoHead (n) (a0):f_ltoHead n a0 = (g_ltoIntS a0.2.1).bind fun r0=> (g_ltoEdgeS a0.2.2.1).bind fun r1=> (g_ltoIntSS a0.2.2.2.1).bind fun r2=> (g_ltoIntS a0.2.2.2.2.1).bind fun r3=> (g_ltoTask (a0.2.2.2.2.2.1,a0.2.2.2.2.2.2.1,a0.2.2.2.2.2.2.2.1,a0.2.2.2.2.2.2.2.2.1,a0.2.2.2.2.2.2.2.2.2.1,a0.2.2.2.2.2.2.2.2.2.2.1,a0.2.2.2.2.2.2.2.2.2.2.2.1,a0.2.2.2.2.2.2.2.2.2.2.2.2.1,a0.2.2.2.2.2.2.2.2.2.2.2.2.2.1)).bind fun r4=> (g_ltoSaidS a0.2.2.2.2.2.2.2.2.2.2.2.2.2.2).bind fun r5=> some ((a0.1,r0.1,r1.1,r2.1,r3.1,r4.1.1,r4.1.2.1,r4.1.2.2.1,r4.1.2.2.2.1,r4.1.2.2.2.2.1,r4.1.2.2.2.2.2.1,r4.1.2.2.2.2.2.2.1,r4.1.2.2.2.2.2.2.2.1,r4.1.2.2.2.2.2.2.2.2,r5.1),()):=by kernel_rfl
def c_ltoLedge:TC:=
 (zS [zAm 1,zBf 2 1000000003] (zS [zBf 3 1000000004] (zS [zLh 4 1 0 4 6 0 6] (zS [zLh 7 1 1 7 9 1 9] (zS [zKB 10 1 2 2] (zS [zKB 13 1 3 3] (zS [zAx 16 3 4,zAy 2 2 16] .ret)))))))
def s_ltoLedge:Sig:=⟨[.rd true [.d,.d,.d,.d]],(.one true [.d,.d,.d,.d])⟩
def E_ltoLedge:TEnv:=envOf []
def f_ltoLedge (n:Nat):Zt16->Option (Zt16 × Unit):=runFn n E_ltoLedge c_ltoLedge [Ty21] Ty21 [] [2] .no
def g_ltoLedge:=f_ltoLedge BIG
def p_ltoLedge:TSp:=⟨s_ltoLedge,[Ty21],Ty21,[],Ou.j .no,g_ltoLedge⟩
theorem k_ltoLedge:zK E_ltoLedge 186 s_ltoLedge c_ltoLedge 17 .no [2]:=by show _=_;kernel_rfl
theorem ok_ltoLedge:p_ltoLedge.Ok PG 186:=mkOk (env_nil PG) k_ltoLedge (by kernel_rfl)
theorem e_ltoLedge (n) (a0):f_ltoLedge n a0 = some (a0,()):=by kernel_rfl
def c_ltoLedgeS:TC:=
 (zS [[o1 2 (.lit Ty17 [.slice none 0 0])]] (zS [zIy 5 0 5,[o1 7 (.make (.t 6) Ty21)],zAs 7 3 7] (zQ (.join [⟨3,Ty17,false⟩] 4194072 none (zS [zAa 4] (.block 0 (.loop [⟨3,Ty17,false⟩,⟨4,[.i .i64],false⟩] 4194072 (zQ (zS [zJC 8 4 0 8] (zC 11 .skip (.exit 0))) (zQ (.block 1 (zR [zAt 14 3,zJv 15 4 0 4 4 4,zAA 20 186 19,zLf 21 14 15 4 20])) (zR [zIo 12 4 4]))))))) (zS [zJb 3 22 3 2] .ret))))
def s_ltoLedgeS:Sig:=⟨[.rd false Ct16],(.one false Ct16)⟩
def E_ltoLedgeS:TEnv:=envOf [(186,p_ltoLedge)]
def f_ltoLedgeS (n:Nat):(List Zt16)->Option ((List Zt16) × Unit):=runFn n E_ltoLedgeS c_ltoLedgeS [Ty17] Ty17 [] [2] .no
def g_ltoLedgeS:=f_ltoLedgeS BIG
def p_ltoLedgeS:TSp:=⟨s_ltoLedgeS,[Ty17],Ty17,[],Ou.j .no,g_ltoLedgeS⟩
theorem k_ltoLedgeS:zK E_ltoLedgeS 159 s_ltoLedgeS c_ltoLedgeS 23 .no [2]:=by show _=_;kernel_rfl
theorem ok_ltoLedgeS:p_ltoLedgeS.Ok PG 159:=mkOk (env_cons ok_ltoLedge (env_nil PG)) k_ltoLedgeS (by kernel_rfl)
theorem e_ltoLedgeS (n) (a0):f_ltoLedgeS n a0 = bif decide (0<=(a0.length:Int)) then bif decide ((Int.toNat (a0.length:Int))<=4294967296) then (loopT n (X:=(List Zt16) × Int) (B:=(List Zt16)) (fun self1 x0=> bif decide (x0.2<(a0.length:Int)) then bnd a0.length x0.2 fun n2=> a0[n2]?.bind fun y3=> (g_ltoLedge y3).bind fun r4=> bnd x0.1.length x0.2 fun n5=> x0.1[n5]?.bind fun y6=> self1 (x0.1.set n5 r4.1,IntKind.wrap .i64 (x0.2+1)) else some x0.1) (List.replicate (Int.toNat (a0.length:Int)) ((0:Int),(0:Int),(0:Int),false),(0:Int))).bind fun x7=> some (x7,()) else none else none:=by kernel_rfl
def c_ltoWeb:TC:=
 (zS [zAm 1,zBg 2 1000000003] (zS [zBg 3 1000000004] (zS [zLh 4 1 0 4 6 0 6] (zS [zIj 7 1 1 7,zJn 9 159 8,zAE 9 1 10 9] (zS [zIm 11 3 2 2 2 3] .ret)))))
def s_ltoWeb:Sig:=⟨[.rd true Ct15],(.one true Ct15)⟩
def E_ltoWeb:TEnv:=envOf [(159,p_ltoLedgeS)]
def f_ltoWeb (n:Nat):Zt12->Option (Zt12 × Unit):=runFn n E_ltoWeb c_ltoWeb [Ty15] Ty15 [] [2] .no
def g_ltoWeb:=f_ltoWeb BIG
def p_ltoWeb:TSp:=⟨s_ltoWeb,[Ty15],Ty15,[],Ou.j .no,g_ltoWeb⟩
theorem k_ltoWeb:zK E_ltoWeb 110 s_ltoWeb c_ltoWeb 12 .no [2]:=by show _=_;kernel_rfl
theorem ok_ltoWeb:p_ltoWeb.Ok PG 110:=mkOk (env_cons ok_ltoLedgeS (env_nil PG)) k_ltoWeb (by kernel_rfl)
theorem e_ltoWeb (n) (a0):f_ltoWeb n a0 = (g_ltoLedgeS a0.2).bind fun r0=> some ((a0.1,r0.1),()):=by kernel_rfl
def c_ltoAnswer:TC:=
 (zS [zAm 1,zBh 2 1000000003] (zS [zBh 3 1000000004] (zS [zLh 4 1 0 4 6 0 6] (zS [zLh 7 1 1 7 9 1 9] (zS [zIf 10 1 2,zJo 12 56 11 2] (zS [zIf 14 1 3,zJo 16 55 15 3] (zS [zIm 18 3 4 2 2 3] .ret)))))))
def s_ltoAnswer:Sig:=⟨[.rd true Ct7],(.one true Ct7)⟩
def E_ltoAnswer:TEnv:=envOf [(56,p_ltoEdgeS),(55,p_ltoIntS)]
def f_ltoAnswer (n:Nat):Zt10->Option (Zt10 × Unit):=runFn n E_ltoAnswer c_ltoAnswer [Ty13] Ty13 [] [2] .no
def g_ltoAnswer:=f_ltoAnswer BIG
def p_ltoAnswer:TSp:=⟨s_ltoAnswer,[Ty13],Ty13,[],Ou.j .no,g_ltoAnswer⟩
theorem k_ltoAnswer:zK E_ltoAnswer 111 s_ltoAnswer c_ltoAnswer 19 .no [2]:=by show _=_;kernel_rfl
theorem ok_ltoAnswer:p_ltoAnswer.Ok PG 111:=mkOk (env_cons ok_ltoEdgeS (env_cons ok_ltoIntS (env_nil PG))) k_ltoAnswer (by kernel_rfl)
theorem e_ltoAnswer (n) (a0):f_ltoAnswer n a0 = (g_ltoEdgeS a0.2.2.1).bind fun r0=> (g_ltoIntS a0.2.2.2).bind fun r1=> some ((a0.1,a0.2.1,r0.1,r1.1),()):=by kernel_rfl
def c_ltoShard:TC:=
 (zS [zAm 1,zBi 2 1000000003] (zS [zBi 3 1000000004] (zS [zLh 4 1 0 4 6 0 6] (zS [zKg 7 1 1 7 2,zJn 9 110 8,zAE 9 1 10 9] (zS [zIu 11 1 3 4,zJo 13 111 12 3] (zS [zIm 15 3 7 2 2 3] .ret))))))
def s_ltoShard:Sig:=⟨[.rd true Ct6],(.one true Ct6)⟩
def E_ltoShard:TEnv:=envOf [(110,p_ltoWeb),(111,p_ltoAnswer)]
def f_ltoShard (n:Nat):Zt8->Option (Zt8 × Unit):=runFn n E_ltoShard c_ltoShard [Ty7] Ty7 [] [2] .no
def g_ltoShard:=f_ltoShard BIG
def p_ltoShard:TSp:=⟨s_ltoShard,[Ty7],Ty7,[],Ou.j .no,g_ltoShard⟩
theorem k_ltoShard:zK E_ltoShard 60 s_ltoShard c_ltoShard 16 .no [2]:=by show _=_;kernel_rfl
theorem ok_ltoShard:p_ltoShard.Ok PG 60:=mkOk (env_cons ok_ltoWeb (env_cons ok_ltoAnswer (env_nil PG))) k_ltoShard (by kernel_rfl)
theorem e_ltoShard (n) (a0):f_ltoShard n a0 = (g_ltoWeb (a0.2.1,a0.2.2.1)).bind fun r0=> (g_ltoAnswer a0.2.2.2).bind fun r1=> some ((a0.1,r0.1.1,r0.1.2,r1.1),()):=by kernel_rfl
def c_ltoShardS:TC:=
 (zS [[o1 2 (.lit Ty6 [.slice none 0 0])]] (zS [zIy 5 0 5,[o1 7 (.make (.t 6) Ty7)],zAs 7 3 7] (zQ (.join [⟨3,Ty6,false⟩] 4194072 none (zS [zAa 4] (.block 0 (.loop [⟨3,Ty6,false⟩,⟨4,[.i .i64],false⟩] 4194072 (zQ (zS [zJC 8 4 0 8] (zC 11 .skip (.exit 0))) (zQ (.block 1 (zR [zAt 14 3,zJv 15 4 0 4 7 7,zAA 20 60 19,zAh 21 14 15,zAB 2 3 20 21 14 3 7 21 20])) (zR [zIo 12 4 4]))))))) (zS [zJb 3 22 3 2] .ret))))
def s_ltoShardS:Sig:=⟨[.rd false Ct4],(.one false Ct4)⟩
def E_ltoShardS:TEnv:=envOf [(60,p_ltoShard)]
def f_ltoShardS (n:Nat):(List Zt8)->Option ((List Zt8) × Unit):=runFn n E_ltoShardS c_ltoShardS [Ty6] Ty6 [] [2] .no
def g_ltoShardS:=f_ltoShardS BIG
def p_ltoShardS:TSp:=⟨s_ltoShardS,[Ty6],Ty6,[],Ou.j .no,g_ltoShardS⟩
theorem k_ltoShardS:zK E_ltoShardS 22 s_ltoShardS c_ltoShardS 23 .no [2]:=by show _=_;kernel_rfl
theorem ok_ltoShardS:p_ltoShardS.Ok PG 22:=mkOk (env_cons ok_ltoShard (env_nil PG)) k_ltoShardS (by kernel_rfl)
theorem e_ltoShardS (n) (a0):f_ltoShardS n a0 = bif decide (0<=(a0.length:Int)) then bif decide ((Int.toNat (a0.length:Int))<=4294967296) then (loopT n (X:=(List Zt7) × Int) (B:=(List Zt7)) (fun self1 x0=> bif decide (x0.2<(a0.length:Int)) then bnd a0.length x0.2 fun n2=> a0[n2]?.bind fun y3=> (g_ltoShard y3).bind fun r4=> bnd x0.1.length x0.2 fun n5=> x0.1[n5]?.bind fun y6=> self1 (x0.1.set n5 r4.1,IntKind.wrap .i64 (x0.2+1)) else some x0.1) (List.replicate (Int.toNat (a0.length:Int)) ((0:Int),(0:Int),[],(0:Int),false,[],[]),(0:Int))).bind fun x7=> some (x7,()) else none else none:=by kernel_rfl
def c_ltoFile:TC:=
 (zS [zAm 1,[o5 (.a (.c [.s,.s,.i .i64] [.string ⟨#[]⟩,.string ⟨#[]⟩,kV 0])) 2 1000000003]] (zS [[o5 (.a (.c [.s,.s,.i .i64] [.string ⟨#[]⟩,.string ⟨#[]⟩,kV 0])) 3 1000000004]] (zS [zLh 4 1 0 4 6 0 6] (zS [zLh 7 1 1 7 9 1 9] (zS [zKB 10 1 2 2] (zS [zAx 13 3 3,zAy 2 2 13] .ret))))))
def s_ltoFile:Sig:=⟨[.rd true [.d,.d,.d]],(.one true [.d,.d,.d])⟩
def E_ltoFile:TEnv:=envOf []
def f_ltoFile (n:Nat):(ByteArray × ByteArray × Int)->Option ((ByteArray × ByteArray × Int) × Unit):=runFn n E_ltoFile c_ltoFile [[.s,.s,.i .i64]] [.s,.s,.i .i64] [] [2] .no
def g_ltoFile:=f_ltoFile BIG
def p_ltoFile:TSp:=⟨s_ltoFile,[[.s,.s,.i .i64]],[.s,.s,.i .i64],[],Ou.j .no,g_ltoFile⟩
theorem k_ltoFile:zK E_ltoFile 160 s_ltoFile c_ltoFile 14 .no [2]:=by show _=_;kernel_rfl
theorem ok_ltoFile:p_ltoFile.Ok PG 160:=mkOk (env_nil PG) k_ltoFile (by kernel_rfl)
theorem e_ltoFile (n) (a0):f_ltoFile n a0 = some (a0,()):=by kernel_rfl
def c_ltoFileS:TC:=
 (zS [[o1 2 (.lit [.sl [.s,.s,.i .i64]] [.slice none 0 0])]] (zS [zIy 5 0 5,[o1 7 (.make (.t 6) [.s,.s,.i .i64])],zAs 7 3 7] (zQ (.join [⟨3,[.sl [.s,.s,.i .i64]],false⟩] 4194072 none (zS [zAa 4] (.block 0 (.loop [⟨3,[.sl [.s,.s,.i .i64]],false⟩,⟨4,[.i .i64],false⟩] 4194072 (zQ (zS [zJC 8 4 0 8] (zC 11 .skip (.exit 0))) (zQ (.block 1 (zR [zAt 14 3,zJv 15 4 0 4 3 3,zAA 20 160 19,zLf 21 14 15 3 20])) (zR [zIo 12 4 4]))))))) (zS [zJb 3 22 3 2] .ret))))
def s_ltoFileS:Sig:=⟨[.rd false Ct18],(.one false Ct18)⟩
def E_ltoFileS:TEnv:=envOf [(160,p_ltoFile)]
def f_ltoFileS (n:Nat):(List (ByteArray × ByteArray × Int))->Option ((List (ByteArray × ByteArray × Int)) × Unit):=runFn n E_ltoFileS c_ltoFileS [[.sl [.s,.s,.i .i64]]] [.sl [.s,.s,.i .i64]] [] [2] .no
def g_ltoFileS:=f_ltoFileS BIG
def p_ltoFileS:TSp:=⟨s_ltoFileS,[[.sl [.s,.s,.i .i64]]],[.sl [.s,.s,.i .i64]],[],Ou.j .no,g_ltoFileS⟩
theorem k_ltoFileS:zK E_ltoFileS 112 s_ltoFileS c_ltoFileS 23 .no [2]:=by show _=_;kernel_rfl
theorem ok_ltoFileS:p_ltoFileS.Ok PG 112:=mkOk (env_cons ok_ltoFile (env_nil PG)) k_ltoFileS (by kernel_rfl)
theorem e_ltoFileS (n) (a0):f_ltoFileS n a0 = bif decide (0<=(a0.length:Int)) then bif decide ((Int.toNat (a0.length:Int))<=4294967296) then (loopT n (X:=(List (ByteArray × ByteArray × Int)) × Int) (B:=(List (ByteArray × ByteArray × Int))) (fun self1 x0=> bif decide (x0.2<(a0.length:Int)) then bnd a0.length x0.2 fun n2=> a0[n2]?.bind fun y3=> (g_ltoFile y3).bind fun r4=> bnd x0.1.length x0.2 fun n5=> x0.1[n5]?.bind fun y6=> self1 (x0.1.set n5 r4.1,IntKind.wrap .i64 (x0.2+1)) else some x0.1) (List.replicate (Int.toNat (a0.length:Int)) (ByteArray.empty,ByteArray.empty,(0:Int)),(0:Int))).bind fun x7=> some (x7,()) else none else none:=by kernel_rfl
def c_ltoDisk:TC:=
 (zS [zAm 1,zBj 2 1000000003] (zS [zBj 3 1000000004] (zS [zIj 4 1 0 4,zJn 6 112 5,zAE 6 0 7 6] (zS [zBa 8 3 1,zBb 8 2 8 2 8 8 3] .ret))))
def s_ltoDisk:Sig:=⟨[.rd true Ct18],(.one true Ct18)⟩
def E_ltoDisk:TEnv:=envOf [(112,p_ltoFileS)]
def f_ltoDisk (n:Nat):(List (ByteArray × ByteArray × Int))->Option ((List (ByteArray × ByteArray × Int)) × Unit):=runFn n E_ltoDisk c_ltoDisk [[.sl [.s,.s,.i .i64]]] [.sl [.s,.s,.i .i64]] [] [2] .no
def g_ltoDisk:=f_ltoDisk BIG
def p_ltoDisk:TSp:=⟨s_ltoDisk,[[.sl [.s,.s,.i .i64]]],[.sl [.s,.s,.i .i64]],[],Ou.j .no,g_ltoDisk⟩
theorem k_ltoDisk:zK E_ltoDisk 61 s_ltoDisk c_ltoDisk 9 .no [2]:=by show _=_;kernel_rfl
theorem ok_ltoDisk:p_ltoDisk.Ok PG 61:=mkOk (env_cons ok_ltoFileS (env_nil PG)) k_ltoDisk (by kernel_rfl)
theorem e_ltoDisk (n) (a0):f_ltoDisk n a0 = (g_ltoFileS a0).bind fun r0=> some (r0.1,()):=by kernel_rfl
def c_ltoDiskS:TC:=
 (zS [[o1 2 (.lit Ty23 [.slice none 0 0])]] (zS [zIy 5 0 5,[o1 7 (.make (.t 6) [.sl [.s,.s,.i .i64]])],zAs 7 3 7] (zQ (.join [⟨3,Ty23,false⟩] 4194072 none (zS [zAa 4] (.block 0 (.loop [⟨3,Ty23,false⟩,⟨4,[.i .i64],false⟩] 4194072 (zQ (zS [zJC 8 4 0 8] (zC 11 .skip (.exit 0))) (zQ (.block 1 (zR [zAt 14 3,zJv 15 4 0 4 1 1,zAA 20 61 19,zAh 21 14 15,zAB 2 3 20 21 14 3 1 21 20])) (zR [zIo 12 4 4]))))))) (zS [zJb 3 22 3 2] .ret))))
def s_ltoDiskS:Sig:=⟨[.rd false Ct9],(.one false Ct9)⟩
def E_ltoDiskS:TEnv:=envOf [(61,p_ltoDisk)]
def f_ltoDiskS (n:Nat):(List (List (ByteArray × ByteArray × Int)))->Option ((List (List (ByteArray × ByteArray × Int))) × Unit):=runFn n E_ltoDiskS c_ltoDiskS [Ty23] Ty23 [] [2] .no
def g_ltoDiskS:=f_ltoDiskS BIG
def p_ltoDiskS:TSp:=⟨s_ltoDiskS,[Ty23],Ty23,[],Ou.j .no,g_ltoDiskS⟩
theorem k_ltoDiskS:zK E_ltoDiskS 23 s_ltoDiskS c_ltoDiskS 23 .no [2]:=by show _=_;kernel_rfl
theorem ok_ltoDiskS:p_ltoDiskS.Ok PG 23:=mkOk (env_cons ok_ltoDisk (env_nil PG)) k_ltoDiskS (by kernel_rfl)
theorem e_ltoDiskS (n) (a0):f_ltoDiskS n a0 = bif decide (0<=(a0.length:Int)) then bif decide ((Int.toNat (a0.length:Int))<=4294967296) then (loopT n (X:=(List ((List (ByteArray × ByteArray × Int)))) × Int) (B:=(List ((List (ByteArray × ByteArray × Int))))) (fun self1 x0=> bif decide (x0.2<(a0.length:Int)) then bnd a0.length x0.2 fun n2=> a0[n2]?.bind fun y3=> (g_ltoDisk y3).bind fun r4=> bnd x0.1.length x0.2 fun n5=> x0.1[n5]?.bind fun y6=> self1 (x0.1.set n5 r4.1,IntKind.wrap .i64 (x0.2+1)) else some x0.1) (List.replicate (Int.toNat (a0.length:Int)) [],(0:Int))).bind fun x7=> some (x7,()) else none else none:=by kernel_rfl
def c_ltoBoolS:TC:=
 (zS [[o1 2 (.lit [.sl [.b]] [.slice none 0 0])]] (zS [zIy 5 0 5,[o1 7 (.make (.t 6) [.b])],zAs 7 3 7] (zQ (.join [⟨3,[.sl [.b]],false⟩] 2096920 none (zS [zAa 4] (.block 0 (.loop [⟨3,[.sl [.b]],false⟩,⟨4,[.i .i64],false⟩] 2096920 (zQ (zS [zJC 8 4 0 8] (zC 11 .skip (.exit 0))) (zQ (.block 1 (zR [zAt 14 3,zJv 15 4 0 4 1 1,zLf 20 14 15 1 19])) (zR [zIo 12 4 4]))))))) (zS [zJb 3 21 3 2] .ret))))
def s_ltoBoolS:Sig:=⟨[.rd false Ct21],(.one false Ct21)⟩
def E_ltoBoolS:TEnv:=envOf []
def f_ltoBoolS (n:Nat):List (Bool)->Option ((List (Bool)) × Unit):=runFn n E_ltoBoolS c_ltoBoolS [[.sl [.b]]] [.sl [.b]] [] [2] .no
def g_ltoBoolS:=f_ltoBoolS BIG
def p_ltoBoolS:TSp:=⟨s_ltoBoolS,[[.sl [.b]]],[.sl [.b]],[],Ou.j .no,g_ltoBoolS⟩
theorem k_ltoBoolS:zK E_ltoBoolS 24 s_ltoBoolS c_ltoBoolS 22 .no [2]:=by show _=_;kernel_rfl
theorem ok_ltoBoolS:p_ltoBoolS.Ok PG 24:=mkOk (env_nil PG) k_ltoBoolS (by kernel_rfl)
theorem e_ltoBoolS (n) (a0):f_ltoBoolS n a0 = bif decide (0<=(a0.length:Int)) then bif decide ((Int.toNat (a0.length:Int))<=4294967296) then (loopT n (X:=(List (Bool)) × Int) (B:=(List (Bool))) (fun self1 x0=> bif decide (x0.2<(a0.length:Int)) then bnd a0.length x0.2 fun n2=> a0[n2]?.bind fun y3=> bnd x0.1.length x0.2 fun n4=> x0.1[n4]?.bind fun y5=> self1 (x0.1.set n4 y3,IntKind.wrap .i64 (x0.2+1)) else some x0.1) (List.replicate (Int.toNat (a0.length:Int)) false,(0:Int))).bind fun x6=> some (x6,()) else none else none:=by kernel_rfl
def c_ltoPacket:TC:=
 (zS [zAm 1,[o5 (.a (.c [.i .i64,.i .i64,.s] [kV 0,kV 0,.string ⟨#[]⟩])) 2 1000000003]] (zS [[o5 (.a (.c [.i .i64,.i .i64,.s] [kV 0,kV 0,.string ⟨#[]⟩])) 3 1000000004]] (zS [zLh 4 1 0 4 6 0 6] (zS [zLh 7 1 1 7 9 1 9] (zS [zKB 10 1 2 2] (zS [zAx 13 3 3,zAy 2 2 13] .ret))))))
def s_ltoPacket:Sig:=⟨[.rd true [.d,.d,.d]],(.one true [.d,.d,.d])⟩
def E_ltoPacket:TEnv:=envOf []
def f_ltoPacket (n:Nat):Zt18->Option (Zt18 × Unit):=runFn n E_ltoPacket c_ltoPacket [[.i .i64,.i .i64,.s]] [.i .i64,.i .i64,.s] [] [2] .no
def g_ltoPacket:=f_ltoPacket BIG
def p_ltoPacket:TSp:=⟨s_ltoPacket,[[.i .i64,.i .i64,.s]],[.i .i64,.i .i64,.s],[],Ou.j .no,g_ltoPacket⟩
theorem k_ltoPacket:zK E_ltoPacket 62 s_ltoPacket c_ltoPacket 14 .no [2]:=by show _=_;kernel_rfl
theorem ok_ltoPacket:p_ltoPacket.Ok PG 62:=mkOk (env_nil PG) k_ltoPacket (by kernel_rfl)
theorem e_ltoPacket (n) (a0):f_ltoPacket n a0 = some (a0,()):=by kernel_rfl
def c_ltoPacketS:TC:=
 (zS [[o1 2 (.lit Ty24 [.slice none 0 0])]] (zS [zIy 5 0 5,[o1 7 (.make (.t 6) [.i .i64,.i .i64,.s])],zAs 7 3 7] (zQ (.join [⟨3,Ty24,false⟩] 4194072 none (zS [zAa 4] (.block 0 (.loop [⟨3,Ty24,false⟩,⟨4,[.i .i64],false⟩] 4194072 (zQ (zS [zJC 8 4 0 8] (zC 11 .skip (.exit 0))) (zQ (.block 1 (zR [zAt 14 3,zJv 15 4 0 4 3 3,zAA 20 62 19,zLf 21 14 15 3 20])) (zR [zIo 12 4 4]))))))) (zS [zJb 3 22 3 2] .ret))))
def s_ltoPacketS:Sig:=⟨[.rd false Ct18],(.one false Ct18)⟩
def E_ltoPacketS:TEnv:=envOf [(62,p_ltoPacket)]
def f_ltoPacketS (n:Nat):(List Zt18)->Option ((List Zt18) × Unit):=runFn n E_ltoPacketS c_ltoPacketS [Ty24] Ty24 [] [2] .no
def g_ltoPacketS:=f_ltoPacketS BIG
def p_ltoPacketS:TSp:=⟨s_ltoPacketS,[Ty24],Ty24,[],Ou.j .no,g_ltoPacketS⟩
theorem k_ltoPacketS:zK E_ltoPacketS 25 s_ltoPacketS c_ltoPacketS 23 .no [2]:=by show _=_;kernel_rfl
theorem ok_ltoPacketS:p_ltoPacketS.Ok PG 25:=mkOk (env_cons ok_ltoPacket (env_nil PG)) k_ltoPacketS (by kernel_rfl)
theorem e_ltoPacketS (n) (a0):f_ltoPacketS n a0 = bif decide (0<=(a0.length:Int)) then bif decide ((Int.toNat (a0.length:Int))<=4294967296) then (loopT n (X:=(List Zt18) × Int) (B:=(List Zt18)) (fun self1 x0=> bif decide (x0.2<(a0.length:Int)) then bnd a0.length x0.2 fun n2=> a0[n2]?.bind fun y3=> (g_ltoPacket y3).bind fun r4=> bnd x0.1.length x0.2 fun n5=> x0.1[n5]?.bind fun y6=> self1 (x0.1.set n5 r4.1,IntKind.wrap .i64 (x0.2+1)) else some x0.1) (List.replicate (Int.toNat (a0.length:Int)) ((0:Int),(0:Int),ByteArray.empty),(0:Int))).bind fun x7=> some (x7,()) else none else none:=by kernel_rfl
def c_ltoCall:TC:=
 (zS [zAm 1,zBk 2 1000000003] (zS [zBk 3 1000000004] (zS [zKg 4 1 0 4 4,zJn 6 107 5,zAw 0 7 6] (zS [zIj 8 1 4 8,zKA 10 4 9] (zS [zKB 11 1 5 5] (zS [zKB 14 1 6 6] (zS [zAx 17 3 7,zAy 2 2 17] .ret)))))))
def s_ltoCall:Sig:=⟨[.rd true Ct22],(.one true Ct22)⟩
def E_ltoCall:TEnv:=envOf [(107,p_ltoAsk)]
def f_ltoCall (n:Nat):Zt11->Option (Zt11 × Unit):=runFn n E_ltoCall c_ltoCall [Ty10] Ty10 [] [2] .no
def g_ltoCall:=f_ltoCall BIG
def p_ltoCall:TSp:=⟨s_ltoCall,[Ty10],Ty10,[],Ou.j .no,g_ltoCall⟩
theorem k_ltoCall:zK E_ltoCall 63 s_ltoCall c_ltoCall 18 .no [2]:=by show _=_;kernel_rfl
theorem ok_ltoCall:p_ltoCall.Ok PG 63:=mkOk (env_cons ok_ltoAsk (env_nil PG)) k_ltoCall (by kernel_rfl)
theorem e_ltoCall (n) (a0):f_ltoCall n a0 = (g_ltoAsk (a0.1,a0.2.1,a0.2.2.1,a0.2.2.2.1)).bind fun r0=> some ((r0.1.1,r0.1.2.1,r0.1.2.2.1,r0.1.2.2.2,a0.2.2.2.2),()):=by kernel_rfl
def c_ltoCallS:TC:=
 (zS [[o1 2 (.lit Ty9 [.slice none 0 0])]] (zS [zIy 5 0 5,[o1 7 (.make (.t 6) Ty10)],zAs 7 3 7] (zQ (.join [⟨3,Ty9,false⟩] 4194072 none (zS [zAa 4] (.block 0 (.loop [⟨3,Ty9,false⟩,⟨4,[.i .i64],false⟩] 4194072 (zQ (zS [zJC 8 4 0 8] (zC 11 .skip (.exit 0))) (zQ (.block 1 (zR [zAt 14 3,zJv 15 4 0 4 7 7,zAA 20 63 19,zLf 21 14 15 7 20])) (zR [zIo 12 4 4]))))))) (zS [zJb 3 22 3 2] .ret))))
def s_ltoCallS:Sig:=⟨[.rd false Ct12],(.one false Ct12)⟩
def E_ltoCallS:TEnv:=envOf [(63,p_ltoCall)]
def f_ltoCallS (n:Nat):(List Zt11)->Option ((List Zt11) × Unit):=runFn n E_ltoCallS c_ltoCallS [Ty9] Ty9 [] [2] .no
def g_ltoCallS:=f_ltoCallS BIG
def p_ltoCallS:TSp:=⟨s_ltoCallS,[Ty9],Ty9,[],Ou.j .no,g_ltoCallS⟩
theorem k_ltoCallS:zK E_ltoCallS 26 s_ltoCallS c_ltoCallS 23 .no [2]:=by show _=_;kernel_rfl
theorem ok_ltoCallS:p_ltoCallS.Ok PG 26:=mkOk (env_cons ok_ltoCall (env_nil PG)) k_ltoCallS (by kernel_rfl)
theorem e_ltoCallS (n) (a0):f_ltoCallS n a0 = bif decide (0<=(a0.length:Int)) then bif decide ((Int.toNat (a0.length:Int))<=4294967296) then (loopT n (X:=(List Zt11) × Int) (B:=(List Zt11)) (fun self1 x0=> bif decide (x0.2<(a0.length:Int)) then bnd a0.length x0.2 fun n2=> a0[n2]?.bind fun y3=> (g_ltoCall y3).bind fun r4=> bnd x0.1.length x0.2 fun n5=> x0.1[n5]?.bind fun y6=> self1 (x0.1.set n5 r4.1,IntKind.wrap .i64 (x0.2+1)) else some x0.1) (List.replicate (Int.toNat (a0.length:Int)) ((0:Int),(0:Int),(0:Int),(0:Int),(0:Int),(0:Int),(0:Int)),(0:Int))).bind fun x7=> some (x7,()) else none else none:=by kernel_rfl
def c_ltoRec:TC:=
 (zS [zAm 1,zBm 2 1000000003] (zS [zBm 3 1000000004] (zS [zLh 4 1 0 4 6 0 6] (zS [zKg 7 1 1 7 4,zJn 9 107 8,zAw 1 10 9] (zS [zKB 11 1 5 5] (zS [zIu 14 1 6 4,zJo 16 111 15 6] (zS [zIu 18 1 10 4,zJo 20 108 19 10] (zS [zIm 22 3 14 2 2 3] .ret))))))))
def s_ltoRec:Sig:=⟨[.rd true Ct5],(.one true Ct5)⟩
def E_ltoRec:TEnv:=envOf [(107,p_ltoAsk),(111,p_ltoAnswer),(108,p_ltoOrder)]
def f_ltoRec (n:Nat):Zt6->Option (Zt6 × Unit):=runFn n E_ltoRec c_ltoRec [Ty5] Ty5 [] [2] .no
def g_ltoRec:=f_ltoRec BIG
def p_ltoRec:TSp:=⟨s_ltoRec,[Ty5],Ty5,[],Ou.j .no,g_ltoRec⟩
theorem k_ltoRec:zK E_ltoRec 64 s_ltoRec c_ltoRec 23 .no [2]:=by show _=_;kernel_rfl
theorem ok_ltoRec:p_ltoRec.Ok PG 64:=mkOk (env_cons ok_ltoAsk (env_cons ok_ltoAnswer (env_cons ok_ltoOrder (env_nil PG)))) k_ltoRec (by kernel_rfl)
theorem e_ltoRec (n) (a0):f_ltoRec n a0 = (g_ltoAsk (a0.2.1,a0.2.2.1,a0.2.2.2.1,a0.2.2.2.2.1)).bind fun r0=> (g_ltoAnswer (a0.2.2.2.2.2.2.1,a0.2.2.2.2.2.2.2.1,a0.2.2.2.2.2.2.2.2.1,a0.2.2.2.2.2.2.2.2.2.1)).bind fun r1=> (g_ltoOrder a0.2.2.2.2.2.2.2.2.2.2).bind fun r2=> some ((a0.1,r0.1.1,r0.1.2.1,r0.1.2.2.1,r0.1.2.2.2,a0.2.2.2.2.2.1,r1.1.1,r1.1.2.1,r1.1.2.2.1,r1.1.2.2.2,r2.1),()):=by kernel_rfl
def c_ltoRecS:TC:=
 (zS [[o1 2 (.lit Ty4 [.slice none 0 0])]] (zS [zIy 5 0 5,[o1 7 (.make (.t 6) Ty5)],zAs 7 3 7] (zQ (.join [⟨3,Ty4,false⟩] 4194072 none (zS [zAa 4] (.block 0 (.loop [⟨3,Ty4,false⟩,⟨4,[.i .i64],false⟩] 4194072 (zQ (zS [zJC 8 4 0 8] (zC 11 .skip (.exit 0))) (zQ (.block 1 (zR [zAt 14 3,zJv 15 4 0 4 14 14,zAA 20 64 19,zAh 21 14 15,zAB 2 3 20 21 14 3 14 21 20])) (zR [zIo 12 4 4]))))))) (zS [zJb 3 22 3 2] .ret))))
def s_ltoRecS:Sig:=⟨[.rd false Ct3],(.one false Ct3)⟩
def E_ltoRecS:TEnv:=envOf [(64,p_ltoRec)]
def f_ltoRecS (n:Nat):(List Zt6)->Option ((List Zt6) × Unit):=runFn n E_ltoRecS c_ltoRecS [Ty4] Ty4 [] [2] .no
def g_ltoRecS:=f_ltoRecS BIG
def p_ltoRecS:TSp:=⟨s_ltoRecS,[Ty4],Ty4,[],Ou.j .no,g_ltoRecS⟩
theorem k_ltoRecS:zK E_ltoRecS 27 s_ltoRecS c_ltoRecS 23 .no [2]:=by show _=_;kernel_rfl
theorem ok_ltoRecS:p_ltoRecS.Ok PG 27:=mkOk (env_cons ok_ltoRec (env_nil PG)) k_ltoRecS (by kernel_rfl)
theorem e_ltoRecS (n) (a0):f_ltoRecS n a0 = bif decide (0<=(a0.length:Int)) then bif decide ((Int.toNat (a0.length:Int))<=4294967296) then (loopT n (X:=(List Zt5) × Int) (B:=(List Zt5)) (fun self1 x0=> bif decide (x0.2<(a0.length:Int)) then bnd a0.length x0.2 fun n2=> a0[n2]?.bind fun y3=> (g_ltoRec y3).bind fun r4=> bnd x0.1.length x0.2 fun n5=> x0.1[n5]?.bind fun y6=> self1 (x0.1.set n5 r4.1,IntKind.wrap .i64 (x0.2+1)) else some x0.1) (List.replicate (Int.toNat (a0.length:Int)) ((0:Int),(0:Int),(0:Int),(0:Int),(0:Int),(0:Int),(0:Int),false,[],[],(0:Int),(0:Int),[],(0:Int)),(0:Int))).bind fun x7=> some (x7,()) else none else none:=by kernel_rfl
def c_ltoWorld:TC:=
 (zS [zAm 1,zBn 2 1000000003] (zS [zBn 3 1000000004] (zS [zLh 4 1 0 4 6 0 6] (zS [zKg 7 1 1 7 15,zJn 9 21 8,zAE 9 1 10 9] (zS [zIf 11 1 16,zJo 13 22 12 16] (zS [zAn 15,zAo 16 1 17 15,zJn 17 23 16,zAE 17 17 18 17] (zS [zIf 19 1 18,zJo 21 24 20 18] (zS [zIf 23 1 19,zJo 25 25 24 19] (zS [zIf 27 1 20,zJo 29 26 28 20] (zS [zIf 31 1 21,zJo 33 27 32 21] (zS [zIm 35 3 22 2 2 3] .ret)))))))))))
def s_ltoWorld:Sig:=⟨[.rd true Ct0],(.one true Ct0)⟩
def E_ltoWorld:TEnv:=envOf [(21,p_ltoHead),(22,p_ltoShardS),(23,p_ltoDiskS),(24,p_ltoBoolS),(25,p_ltoPacketS),(26,p_ltoCallS),(27,p_ltoRecS)]
def f_ltoWorld (n:Nat):Zt0->Option (Zt0 × Unit):=runFn n E_ltoWorld c_ltoWorld [Ty0] Ty0 [] [2] .no
def g_ltoWorld:=f_ltoWorld BIG
def p_ltoWorld:TSp:=⟨s_ltoWorld,[Ty0],Ty0,[],Ou.j .no,g_ltoWorld⟩
theorem k_ltoWorld:zK E_ltoWorld 6 s_ltoWorld c_ltoWorld 36 .no [2]:=by show _=_;kernel_rfl
theorem ok_ltoWorld:p_ltoWorld.Ok PG 6:=mkOk (env_cons ok_ltoHead (env_cons ok_ltoShardS (env_cons ok_ltoDiskS (env_cons ok_ltoBoolS (env_cons ok_ltoPacketS (env_cons ok_ltoCallS (env_cons ok_ltoRecS (env_nil PG)))))))) k_ltoWorld (by kernel_rfl)
theorem e_ltoWorld (n) (a0):f_ltoWorld n a0 = (g_ltoHead (a0.2.1,a0.2.2.1,a0.2.2.2.1,a0.2.2.2.2.1,a0.2.2.2.2.2.1,a0.2.2.2.2.2.2.1,a0.2.2.2.2.2.2.2.1,a0.2.2.2.2.2.2.2.2.1,a0.2.2.2.2.2.2.2.2.2.1,a0.2.2.2.2.2.2.2.2.2.2.1,a0.2.2.2.2.2.2.2.2.2.2.2.1,a0.2.2.2.2.2.2.2.2.2.2.2.2.1,a0.2.2.2.2.2.2.2.2.2.2.2.2.2.1,a0.2.2.2.2.2.2.2.2.2.2.2.2.2.2.1,a0.2.2.2.2.2.2.2.2.2.2.2.2.2.2.2.1)).bind fun r0=> (g_ltoShardS a0.2.2.2.2.2.2.2.2.2.2.2.2.2.2.2.2.1).bind fun r1=> (g_ltoDiskS a0.2.2.2.2.2.2.2.2.2.2.2.2.2.2.2.2.2.1).bind fun r2=> (g_ltoBoolS a0.2.2.2.2.2.2.2.2.2.2.2.2.2.2.2.2.2.2.1).bind fun r3=> (g_ltoPacketS a0.2.2.2.2.2.2.2.2.2.2.2.2.2.2.2.2.2.2.2.1).bind fun r4=> (g_ltoCallS a0.2.2.2.2.2.2.2.2.2.2.2.2.2.2.2.2.2.2.2.2.1).bind fun r5=> (g_ltoRecS a0.2.2.2.2.2.2.2.2.2.2.2.2.2.2.2.2.2.2.2.2.2).bind fun r6=> some ((a0.1,r0.1.1,r0.1.2.1,r0.1.2.2.1,r0.1.2.2.2.1,r0.1.2.2.2.2.1,r0.1.2.2.2.2.2.1,r0.1.2.2.2.2.2.2.1,r0.1.2.2.2.2.2.2.2.1,r0.1.2.2.2.2.2.2.2.2.1,r0.1.2.2.2.2.2.2.2.2.2.1,r0.1.2.2.2.2.2.2.2.2.2.2.1,r0.1.2.2.2.2.2.2.2.2.2.2.2.1,r0.1.2.2.2.2.2.2.2.2.2.2.2.2.1,r0.1.2.2.2.2.2.2.2.2.2.2.2.2.2.1,r0.1.2.2.2.2.2.2.2.2.2.2.2.2.2.2,r1.1,r2.1,r3.1,r4.1,r5.1,r6.1),()):=by kernel_rfl
def c_sl01In:TC:=
 (zS [zBo 6] (zQ (.join [⟨6,[.b],false⟩] 32704 none (zR [zIh 7 0 1,zBp,zKy 10 9 0 3,zBq 12 2 3,zBr,zJe 10 13 14 6])) .ret))
def s_sl01In:Sig:=⟨[.rd false [.d],.rd false [.d],.rd false [.d]],(.one false [.d])⟩
def E_sl01In:TEnv:=envOf []
def f_sl01In (n:Nat):Int × Int × Int->Option ((Bool) × Unit):=runFn n E_sl01In c_sl01In [[.i .i64],[.i .i64],[.i .i64]] [.b] [] [6] .no
def g_sl01In:=f_sl01In BIG
def p_sl01In:TSp:=⟨s_sl01In,[[.i .i64],[.i .i64],[.i .i64]],[.b],[],Ou.j .no,g_sl01In⟩
theorem k_sl01In:zK E_sl01In 139 s_sl01In c_sl01In 15 .no [6]:=by show _=_;kernel_rfl
theorem ok_sl01In:p_sl01In.Ok PG 139:=mkOk (env_nil PG) k_sl01In (by kernel_rfl)
theorem e_sl01In (n) (a0) (a1) (a2):f_sl01In n (a0,a1,a2) = (bif decide (a1<=a0) then some (decide (a0<=a2)) else some false).bind fun x0=> some (x0,()):=by kernel_rfl
def c_sl05Labels:TC:=
 (zS [zAr 4] (zS [zBt 11,zAs 11 5 11] (zQ (.join [⟨5,[.sl [.i .i64]],false⟩] 2093152 none (zS [zAa 6] (.block 0 (.loop [⟨5,[.sl [.i .i64]],false⟩,⟨6,[.i .i64],false⟩] 2093152 (zQ (zS [zKC 12 6 0] (zC 14 .skip (.exit 0))) (zQ (.block 1 (zR [zAs 5 17 5,zAb 18 6,zBu 19 18,zJw 17 19 20 17 5])) (zR [zIo 15 6 6]))))))) (zQ (.join [⟨5,[.sl [.i .i64]],false⟩] 1180591620717409208224 none (zS [zAa 7] (.block 2 (.loop [⟨5,[.sl [.i .i64]],false⟩,⟨7,[.i .i64],false⟩] 1180591620717409208224 (zQ (zS [zKC 21 7 0] (zC 23 .skip (.exit 2))) (zQ (.join [⟨5,[.sl [.i .i64]],false⟩] 1180591620717344196384 none (.block 3 (zS [zAa 8] (.block 4 (.loop [⟨5,[.sl [.i .i64]],false⟩,⟨8,[.i .i64],false⟩] 1180591620717344196384 (zQ (zS [zIr 26 8 1] (zC 29 .skip (.exit 4))) (zQ (.join [⟨5,[.sl [.i .i64]],false⟩] 1180591620713116337696 none (.block 5 (zS [zAt 32 5,zIh 33 1 8,zKx 35 33 34 2 1,zJh 38 32 37 5 1 1,zAb 9 39] (zS [zAt 40 5,zIh 41 1 8,zKc 43 41 42 2 1 1,zJh 46 40 45 5 1 1,zAb 10 47] (zQ (.join [⟨5,[.sl [.i .i64]],false⟩] 576180381133307936 none (zS [zAb 48 9,zAb 49 10,zAg 50 48 49] (zC 50 (zR [zAt 51 5,zIh 52 1 8,zKc 54 52 53 2 1 1,zAb 57 9,zAh 58 51 56,zAB 1 5 32 40 51 5 1 58 57]) .skip))) (zS [zKC 59 10 9] (zC 61 (zR [zAt 62 5,zIh 63 1 8,zKx 65 63 64 2 1,zAb 68 10,zAh 69 62 67,[o4 1 [5,62] (.store 5 [(0,1)] 0 (.t 69) (.t 68))]]) .skip))))))) (zR [zIo 30 8 8])))))))) (zR [zIo 24 7 7]))))))) (zS [zJb 5 70 5 4] .ret)))))
def s_sl05Labels:Sig:=⟨[.rd false [.d],.rd false Ct20],(.one false Ct21)⟩
def E_sl05Labels:TEnv:=envOf []
def f_sl05Labels (n:Nat):Int × (List Zt20)->Option ((List Int) × Unit):=runFn n E_sl05Labels c_sl05Labels [[.i .i64],[.sl [.i .i64,.i .i64]]] [.sl [.i .i64]] [] [4] .no
def g_sl05Labels:=f_sl05Labels BIG
def p_sl05Labels:TSp:=⟨s_sl05Labels,[[.i .i64],[.sl [.i .i64,.i .i64]]],[.sl [.i .i64]],[],Ou.j .no,g_sl05Labels⟩
theorem k_sl05Labels:zK E_sl05Labels 140 s_sl05Labels c_sl05Labels 71 .no [4]:=by show _=_;kernel_rfl
theorem ok_sl05Labels:p_sl05Labels.Ok PG 140:=mkOk (env_nil PG) k_sl05Labels (by kernel_rfl)
theorem e_sl05Labels (n) (a0) (a1):f_sl05Labels n (a0,a1) = (loopT n (X:=(List Int) × Int) (B:=(List Int)) (fun self1 x0=> bif decide (x0.2<a0) then bif decide (x0.1.length+[x0.2].length<=4294967296) then self1 (x0.1++[x0.2],IntKind.wrap .i64 (x0.2+1)) else none else some x0.1) ([],(0:Int))).bind fun x2=> (loopT n (X:=(List Int) × Int) (B:=(List Int)) (fun self4 x3=> bif decide (x3.2<a0) then (loopT n (X:=(List Int) × Int) (B:=(List Int)) (fun self6 x5=> bif decide (x5.2<(a1.length:Int)) then (bnd a1.length x5.2 fun n7=> a1[n7]?.bind fun y8=> bnd x5.1.length y8.1 fun n9=> x5.1[n9]?.bind fun y10=> bnd a1.length x5.2 fun n11=> a1[n11]?.bind fun y12=> bnd x5.1.length y12.2 fun n13=> x5.1[n13]?.bind fun y14=> (bif decide (y10<y14) then bnd a1.length x5.2 fun n15=> a1[n15]?.bind fun y16=> bnd x5.1.length y16.2 fun n17=> x5.1[n17]?.bind fun y18=> some (x5.1.set n17 y10) else some x5.1).bind fun x19=> bif decide (y14<y10) then bnd a1.length x5.2 fun n20=> a1[n20]?.bind fun y21=> bnd x19.length y21.1 fun n22=> x19[n22]?.bind fun y23=> some (x19.set n22 y14) else some x19:Option ((List Int))).bind fun x24=> self6 (x24,IntKind.wrap .i64 (x5.2+1)) else some x5.1) (x3.1,(0:Int))).bind fun x25=> self4 (x25,IntKind.wrap .i64 (x3.2+1)) else some x3.1) (x2,(0:Int))).bind fun x26=> some (x26,()):=by kernel_rfl
def c_sHeadNew:TC:=
 (zS [zBe 4 1000000005,zBo 5] (zQ (.seq (.join [⟨16,[.b],false⟩] 130560 none (zR [zAb 9 0,zBy 10 139 9 12,zJk 11 10,zBA 13 1 3,zBB 139 13 3 14 14 3,zIt 15 14 3 12])) (zC 16 (zS [zBE 17,zDa 4 17 4 17,zBo 5] .ret) .skip)) (zS [zIh 18 0 1,[o1 20 (.make (.t 19) [.i .i64]),o5 (.build Ty3 [(0,.t 18),(4,.t 20)]) 21 20],zBe 6 1000000007,zDa 6 21 6 21] (zQ (.join [⟨6,Ty3,false⟩] 68715282624 none (zS [zAa 7] (.block 0 (.loop [⟨6,Ty3,false⟩,⟨7,[.i .i64],false⟩] 68715282624 (zQ (zS [zKC 22 7 0] (zC 24 .skip (.exit 0))) (zQ (.block 1 (zR [zIh 29 7 1,zJD 27 6 1,[o1 31 (.data (.bin .rem) [.t 29,.t 30]),o1 32 (.data (.bin .add) [kD 1,.t 31])],zBu 33 32,zDc 28 28 33 34 28 28 6 34,zAn 35,zDd 6 34 28 6 1 35 34])) (zR [zIo 25 7 7]))))))) (zQ (.join [⟨6,Ty3,false⟩] 562881233944896 none (zS [zAa 8] (.block 2 (.loop [⟨6,Ty3,false⟩,⟨8,[.i .i64],false⟩] 562881233944896 (zQ (zS [zKC 36 8 1] (zC 38 .skip (.exit 2))) (zQ (.block 3 (zR [zAb 43 0,zJD 41 6 3,zDe 44,zAj 45 140 43 44,zDf 45 46 45,zDg 42 42 46 47 42 46 42 6 47,zAn 48,zDd 6 47 42 6 3 48 47])) (zR [zIo 39 8 8]))))))) (zS [zIm 49 6 15 4 4 6,zDh 5] .ret))))))
def s_sHeadNew:Sig:=⟨[.rd false [.d],.rd false [.d]],(.tup [(true,15),(false,1)] Ct1)⟩
def E_sHeadNew:TEnv:=envOf [(139,p_sl01In),(140,p_sl05Labels)]
def f_sHeadNew (n:Nat):Int × Int->Option (Zt2 × Unit):=runFn n E_sHeadNew c_sHeadNew [[.i .i64],[.i .i64]] Ty2 [] [4,5] .no
def g_sHeadNew:=f_sHeadNew BIG
def p_sHeadNew:TSp:=⟨s_sHeadNew,[[.i .i64],[.i .i64]],Ty2,[],Ou.j .no,g_sHeadNew⟩
theorem k_sHeadNew:zK E_sHeadNew 93 s_sHeadNew c_sHeadNew 50 .no [4,5]:=by show _=_;kernel_rfl
theorem ok_sHeadNew:p_sHeadNew.Ok PG 93:=mkOk (env_cons ok_sl01In (env_cons ok_sl05Labels (env_nil PG))) k_sHeadNew (by kernel_rfl)
theorem e_sHeadNew (n) (a0) (a1):f_sHeadNew n (a0,a1) = ((g_sl01In (a0,(1:Int),(12:Int))).bind fun r0=> bif !r0.1 then some true else (g_sl01In (a1,(1:Int),(3:Int))).bind fun r1=> some !r1.1).bind fun x2=> bif x2 then some (((0:Int),[],[],[],[],(0:Int),(0:Int),(0:Int),(0:Int),(0:Int),(0:Int),(0:Int),[],(0:Int),[],false),()) else bif decide (0<=a1) then bif decide ((Int.toNat a1)<=4294967296) then (loopT n (X:=Zt4 × Int) (B:=Zt4) (fun self4 x3=> bif decide (x3.2<a0) then bif decide (a1=0) then none else bif decide (x3.1.2.1.length+([IntKind.wrap .i64 ((1:Int)+(Int.tmod x3.2 a1))]).length<=4294967296) then self4 ((x3.1.1,x3.1.2.1++([IntKind.wrap .i64 ((1:Int)+(Int.tmod x3.2 a1))]),x3.1.2.2),IntKind.wrap .i64 (x3.2+1)) else none else some x3.1) ((a0,[],[],[],List.replicate (Int.toNat a1) (0:Int),(0:Int),(0:Int),(0:Int),(0:Int),(0:Int),(0:Int),(0:Int),[],(0:Int),[]),(0:Int))).bind fun x5=> (loopT n (X:=Zt4 × Int) (B:=Zt4) (fun self7 x6=> bif decide (x6.2<a1) then (g_sl05Labels (a0,[])).bind fun r8=> bif decide (x6.1.2.2.2.1.length+[r8.1].length<=4294967296) then self7 ((x6.1.1,x6.1.2.1,x6.1.2.2.1,x6.1.2.2.2.1++[r8.1],x6.1.2.2.2.2),IntKind.wrap .i64 (x6.2+1)) else none else some x6.1) (x5,(0:Int))).bind fun x9=> some ((x9.1,x9.2.1,x9.2.2.1,x9.2.2.2.1,x9.2.2.2.2.1,x9.2.2.2.2.2.1,x9.2.2.2.2.2.2.1,x9.2.2.2.2.2.2.2.1,x9.2.2.2.2.2.2.2.2.1,x9.2.2.2.2.2.2.2.2.2.1,x9.2.2.2.2.2.2.2.2.2.2.1,x9.2.2.2.2.2.2.2.2.2.2.2.1,x9.2.2.2.2.2.2.2.2.2.2.2.2.1,x9.2.2.2.2.2.2.2.2.2.2.2.2.2.1,x9.2.2.2.2.2.2.2.2.2.2.2.2.2.2,true),()) else none else none:=by kernel_rfl
def c_sl09CopyOrder:TC:=
 (zS [zAm 1,zAD 2 1000000003] (zS [zDe 3,zIj 4 1 2 4,zBv 3 5 6 3,zAn 7,zDi 1 6 1 2 7 6] (zS [zBa 8 1 4,zBb 8 2 8 2 8 8 1] .ret)))
def s_sl09CopyOrder:Sig:=⟨[.rd true Ct14],(.one true Ct14)⟩
def E_sl09CopyOrder:TEnv:=envOf []
def f_sl09CopyOrder (n:Nat):Zt13->Option (Zt13 × Unit):=runFn n E_sl09CopyOrder c_sl09CopyOrder [Ty14] Ty14 [] [2] .no
def g_sl09CopyOrder:=f_sl09CopyOrder BIG
def p_sl09CopyOrder:TSp:=⟨s_sl09CopyOrder,[Ty14],Ty14,[],Ou.j .no,g_sl09CopyOrder⟩
theorem k_sl09CopyOrder:zK E_sl09CopyOrder 149 s_sl09CopyOrder c_sl09CopyOrder 9 .no [2]:=by show _=_;kernel_rfl
theorem ok_sl09CopyOrder:p_sl09CopyOrder.Ok PG 149:=mkOk (env_nil PG) k_sl09CopyOrder (by kernel_rfl)
theorem e_sl09CopyOrder (n) (a0):f_sl09CopyOrder n a0 = bif decide (0+a0.2.2.1.length<=4294967296) then some ((a0.1,a0.2.1,[]++a0.2.2.1,a0.2.2.2),()) else none:=by kernel_rfl
def c_sl12Copy:TC:=
 (zS [zAm 1,zBe 2 1000000003] (zS [zBt 5,zIj 6 1 1 6,zBv 5 7 8 5,zAn 9,zDi 1 8 1 1 9 8] (zS [zDe 10,zIf 11 1 2,zBv 10 12 13 10,zAn 14,zDi 1 13 1 2 14 13] (zS [zBt 15,zIf 16 1 4,zBv 15 17 18 15,zAn 19,zDi 1 18 1 4 19 18] (zS [[o1 20 (.sli Ty12 [])],zIf 21 1 14,zBv 20 22 23 20,zAn 24,zDi 1 23 1 14 24 23] (zS [[o1 25 (.sli [.sl [.i .i64]] [])],zAs 25 3 25] (zQ (.join [⟨3,[.sl [.sl [.i .i64]]],false⟩] 8796025913368 none (zS [zAa 4] (.block 0 (.loop [⟨3,[.sl [.sl [.i .i64]]],false⟩,⟨4,[.i .i64],false⟩] 8796025913368 (zQ (zS [zAb 26 4,zIf 27 1 3,zIk 29 28 26] (zC 30 .skip (.exit 0))) (zQ (.block 1 (zR [zAs 3 33 3,zBt 34,zIf 35 1 3,zJa 37 4 36 1 1,zBv 34 39 40 34,zDf 40 41 40,zDj 33 41 42 33 41 42,zAs 42 3 42])) (zR [zIo 31 4 4]))))))) (zS [zAs 3 43 3,zAn 44,zDi 1 43 1 3 44 43] (zS [zJf 45,zAp 47 1 10 46 4,zAA 48 149 47,zJf 49,zDi 1 48 1 10 50 48] (zS [zIm 51 1 15 2 2 1] .ret))))))))))
def s_sl12Copy:Sig:=⟨[.rd true Ct2],(.one true Ct2)⟩
def E_sl12Copy:TEnv:=envOf [(149,p_sl09CopyOrder)]
def f_sl12Copy (n:Nat):Zt4->Option (Zt4 × Unit):=runFn n E_sl12Copy c_sl12Copy [Ty3] Ty3 [] [2] .no
def g_sl12Copy:=f_sl12Copy BIG
def p_sl12Copy:TSp:=⟨s_sl12Copy,[Ty3],Ty3,[],Ou.j .no,g_sl12Copy⟩
theorem k_sl12Copy:zK E_sl12Copy 96 s_sl12Copy c_sl12Copy 52 .no [2]:=by show _=_;kernel_rfl
theorem ok_sl12Copy:p_sl12Copy.Ok PG 96:=mkOk (env_cons ok_sl09CopyOrder (env_nil PG)) k_sl12Copy (by kernel_rfl)
theorem e_sl12Copy (n) (a0):f_sl12Copy n a0 = bif decide (0+a0.2.1.length<=4294967296) then bif decide (0+a0.2.2.1.length<=4294967296) then bif decide (0+a0.2.2.2.2.1.length<=4294967296) then bif decide (0+a0.2.2.2.2.2.2.2.2.2.2.2.2.2.2.length<=4294967296) then (loopT n (X:=(List (List Int)) × Int) (B:=(List (List Int))) (fun self1 x0=> bif decide (x0.2<(a0.2.2.2.1.length:Int)) then bnd a0.2.2.2.1.length x0.2 fun n2=> a0.2.2.2.1[n2]?.bind fun y3=> bif decide (0+y3.length<=4294967296) then bif decide (x0.1.length+([[]++y3]).length<=4294967296) then self1 (x0.1++([[]++y3]),IntKind.wrap .i64 (x0.2+1)) else none else none else some x0.1) ([],(0:Int))).bind fun x4=> (g_sl09CopyOrder (a0.2.2.2.2.2.2.2.2.2.2.1,a0.2.2.2.2.2.2.2.2.2.2.2.1,a0.2.2.2.2.2.2.2.2.2.2.2.2.1,a0.2.2.2.2.2.2.2.2.2.2.2.2.2.1)).bind fun r5=> some ((a0.1,[]++a0.2.1,[]++a0.2.2.1,x4,[]++a0.2.2.2.2.1,a0.2.2.2.2.2.1,a0.2.2.2.2.2.2.1,a0.2.2.2.2.2.2.2.1,a0.2.2.2.2.2.2.2.2.1,a0.2.2.2.2.2.2.2.2.2.1,r5.1.1,r5.1.2.1,r5.1.2.2.1,r5.1.2.2.2,[]++a0.2.2.2.2.2.2.2.2.2.2.2.2.2.2),()) else none else none else none else none:=by kernel_rfl
def c_sEdgeOk:TC:=
 (zS [zJp 3 1] (zQ (.join [⟨4,[.b],false⟩] 268435440 none (zR [zAb 5 0,zBy 6 139 5 12,zAb 7 6,zDm 8 2,zDn 9 3 0 8 2,zBq 10 0 2,zKn 11 10 2 139 9 2,zIx 7 12 13,zIA 15 9 3 1 9,zBq 17 0 9,zKn 18 17 9 139 16 9,zIx 14 19 20,zKE 22 16 3 0 3 1,zDq 26 23 25 16,zJe 21 26 27 4])) .ret))
def s_sEdgeOk:Sig:=⟨[.rd false [.d],.rd true [.d,.d]],(.one false [.d])⟩
def E_sEdgeOk:TEnv:=envOf [(139,p_sl01In)]
def f_sEdgeOk (n:Nat):Int × Zt20->Option ((Bool) × Unit):=runFn n E_sEdgeOk c_sEdgeOk [[.i .i64],[.i .i64,.i .i64]] [.b] [] [4] .no
def g_sEdgeOk:=f_sEdgeOk BIG
def p_sEdgeOk:TSp:=⟨s_sEdgeOk,[[.i .i64],[.i .i64,.i .i64]],[.b],[],Ou.j .no,g_sEdgeOk⟩
theorem k_sEdgeOk:zK E_sEdgeOk 157 s_sEdgeOk c_sEdgeOk 28 .no [4]:=by show _=_;kernel_rfl
theorem ok_sEdgeOk:p_sEdgeOk.Ok PG 157:=mkOk (env_cons ok_sl01In (env_nil PG)) k_sEdgeOk (by kernel_rfl)
theorem e_sEdgeOk (n) (a0) (a1):f_sEdgeOk n (a0,a1) = ((g_sl01In (a0,(1:Int),(12:Int))).bind fun r0=> bif r0.1 then (g_sl01In (a1.1,(0:Int),IntKind.wrap .i64 (a0-1))).bind fun r1=> bif r1.1 then (g_sl01In (a1.2,(0:Int),IntKind.wrap .i64 (a0-1))).bind fun r2=> bif r2.1 then some (decide (a1.1<a1.2)) else some false else some false else some false).bind fun x3=> some (x3,()):=by kernel_rfl
def c_sl05Less:TC:=
 (zS [zJB 2 1] (zQ (.join [⟨4,[.b],false⟩] 16777200 none (zR [zLd 5 2 0 5 7 3 0 7,zAg 9 6 8,zKz 10 9 5 2 0 5,zIq 13 5 3 0 5,zDt 15 12 14 5,zBA 16 15 5,zKE 17 11 2 1 3 1,zDq 21 18 20 11,zLa 16 21 22 22 5 10,zAb 4 23])) .ret))
def s_sl05Less:Sig:=⟨[.rd true [.d,.d],.rd true [.d,.d]],(.one false [.d])⟩
def E_sl05Less:TEnv:=envOf []
def f_sl05Less (n:Nat):Zt20 × Zt20->Option ((Bool) × Unit):=runFn n E_sl05Less c_sl05Less [[.i .i64,.i .i64],[.i .i64,.i .i64]] [.b] [] [4] .no
def g_sl05Less:=f_sl05Less BIG
def p_sl05Less:TSp:=⟨s_sl05Less,[[.i .i64,.i .i64],[.i .i64,.i .i64]],[.b],[],Ou.j .no,g_sl05Less⟩
theorem k_sl05Less:zK E_sl05Less 185 s_sl05Less c_sl05Less 24 .no [4]:=by show _=_;kernel_rfl
theorem ok_sl05Less:p_sl05Less.Ok PG 185:=mkOk (env_nil PG) k_sl05Less (by kernel_rfl)
theorem e_sl05Less (n) (a0) (a1):f_sl05Less n (a0,a1) = (bif decide (a0.1<a1.1) then some true else bif decide (a0.1=a1.1) then some (decide (a0.2<a1.2)) else some false).bind fun x0=> some (x0,()):=by kernel_rfl
def c_sl05Edges:TC:=
 (zS [zBo 4] (zQ (.join [] 68719476720 (some [⟨4,[.b],false⟩]) (zS [zAa 5] (.block 0 (.loop [⟨5,[.i .i64],false⟩] 68719476720 (zQ (zS [zKs 6 5 1 8,zAg 9 6 8] (zC 9 .skip (.exit 0))) (zQ (.join [] 68719472656 (some [⟨4,[.b],false⟩]) (.block 1 (zQ (.join [⟨35,[.b],false⟩] 68719472640 none (zR [zJv 12 0 1 5 2 2,zIp 17 157 12 16,zAb 19 18,zBA 20 5 7,zDv 21 20 0 7,zBA 22 21 7,zBq 23 1 10,zBq 24 5 10,zDo 25 24 10,zDw 26 23 25 10,zDx 27 23 2 26 2 10,zBq 28 1 10,zBq 29 5 10,zDw 30 28 29 10,zDx 31 28 2 30 2 10,zDy 185 27 31 32 32 10,zDz 33 32 10,zLa 22 33 34 34 7 19])) (zC 35 (zS [zBo 4] .ret) .skip)))) (zR [zIo 10 5 5]))))))) (zS [zJm 36 1,zDA 38 37 66,zAb 4 38] .ret)))
def s_sl05Edges:Sig:=⟨[.rd false [.d],.rd false Ct20],(.one false [.d])⟩
def E_sl05Edges:TEnv:=envOf [(157,p_sEdgeOk),(185,p_sl05Less)]
def f_sl05Edges (n:Nat):Int × (List Zt20)->Option ((Bool) × Unit):=runFn n E_sl05Edges c_sl05Edges [[.i .i64],[.sl [.i .i64,.i .i64]]] [.b] [] [4] .no
def g_sl05Edges:=f_sl05Edges BIG
def p_sl05Edges:TSp:=⟨s_sl05Edges,[[.i .i64],[.sl [.i .i64,.i .i64]]],[.b],[],Ou.j .no,g_sl05Edges⟩
theorem k_sl05Edges:zK E_sl05Edges 180 s_sl05Edges c_sl05Edges 39 .no [4]:=by show _=_;kernel_rfl
theorem ok_sl05Edges:p_sl05Edges.Ok PG 180:=mkOk (env_cons ok_sEdgeOk (env_cons ok_sl05Less (env_nil PG))) k_sl05Edges (by kernel_rfl)
theorem e_sl05Edges (n) (a0) (a1):f_sl05Edges n (a0,a1) =
 (loopT n (X:=Int) (B:=(Unit) ⊕ (Bool)) (fun self1 x0=>
  bif decide (x0<(a1.length:Int)) then
   ((bnd a1.length x0 fun n2=>
    a1[n2]?.bind fun y3=>
    (g_sEdgeOk (a0,y3)).bind fun r4=>
    bif !r4.1 then
     some true
    else bif decide (0<x0) then
     bnd a1.length (IntKind.wrap .i64 (x0-1)) fun n5=>
     a1[n5]?.bind fun y6=>
     bnd a1.length x0 fun n7=>
     a1[n7]?.bind fun y8=>
     (g_sl05Less (y6,y8)).bind fun r9=>
     some !r9.1
    else some false).bind fun x10=>
    bif x10 then
     some (Sum.inr false)
    else some (Sum.inl ())).bind fun y=>match y with
   | .inl x11=>
    self1 (IntKind.wrap .i64 (x0+1))
   | .inr x11=>
    some (Sum.inr x11)
  else some (Sum.inl ())) (0:Int)).bind fun y=>match y with
 | .inl x12=>
  some (decide ((a1.length:Int)<=66),())
 | .inr x12=>
  some (x12,()):=by kernel_rfl
def c_sl09Labels:TC:=
 (zS [zBo 4] (zQ (zS [zIy 6 1 6,zAb 8 0,zDB 9 7 8] (zC 9 (zS [zBo 4] .ret) .skip)) (zQ (.join [] 68719475760 (some [⟨4,[.b],false⟩]) (zS [zAa 5] (.block 0 (.loop [⟨5,[.i .i64],false⟩] 68719475760 (zQ (zS [zKC 10 5 0] (zC 12 .skip (.exit 0))) (zQ (.join [] 68719443984 (some [⟨4,[.b],false⟩]) (.block 1 (zQ (.join [⟨35,[.b],false⟩] 68719443968 none (zR [zIh 15 1 5,zAb 19 5,zIg 17 15 16 1 1,zDC 20 139 18 19,zJk 21 20,zBA 23 1 7,zBA 24 1 7,zLi 25 5 7 24 7,zDE 27 24 26 7,zDD 28 23 27 7,zDE 29 23 28 7,zBA 30 1 7,zLi 31 5 7 30 7,zDE 33 30 32 7,zJx 34 29 33 7 22])) (zC 35 (zS [zBo 4] .ret) .skip)))) (zR [zIo 13 5 5]))))))) (zS [zDh 4] .ret))))
def s_sl09Labels:Sig:=⟨[.rd false [.d],.rd false Ct21],(.one false [.d])⟩
def E_sl09Labels:TEnv:=envOf [(139,p_sl01In)]
def f_sl09Labels (n:Nat):Int × List (Int)->Option ((Bool) × Unit):=runFn n E_sl09Labels c_sl09Labels [[.i .i64],[.sl [.i .i64]]] [.b] [] [4] .no
def g_sl09Labels:=f_sl09Labels BIG
def p_sl09Labels:TSp:=⟨s_sl09Labels,[[.i .i64],[.sl [.i .i64]]],[.b],[],Ou.j .no,g_sl09Labels⟩
theorem k_sl09Labels:zK E_sl09Labels 181 s_sl09Labels c_sl09Labels 36 .no [4]:=by show _=_;kernel_rfl
theorem ok_sl09Labels:p_sl09Labels.Ok PG 181:=mkOk (env_cons ok_sl01In (env_nil PG)) k_sl09Labels (by kernel_rfl)
theorem e_sl09Labels (n) (a0) (a1):f_sl09Labels n (a0,a1) =
 bif !decide ((a1.length:Int)=a0) then
  some (false,())
 else (loopT n (X:=Int) (B:=(Unit) ⊕ (Bool)) (fun self1 x0=>
  bif decide (x0<a0) then
   ((bnd a1.length x0 fun n2=>
    a1[n2]?.bind fun y3=>
    (g_sl01In (y3,(0:Int),x0)).bind fun r4=>
    bif !r4.1 then
     some true
    else bnd a1.length x0 fun n5=>
    a1[n5]?.bind fun y6=>
    bnd a1.length y6 fun n7=>
    a1[n7]?.bind fun y8=>
    bnd a1.length x0 fun n9=>
    a1[n9]?.bind fun y10=>
    some (!decide (y8=y10))).bind fun x11=>
    bif x11 then
     some (Sum.inr false)
    else some (Sum.inl ())).bind fun y=>match y with
   | .inl x12=>
    self1 (IntKind.wrap .i64 (x0+1))
   | .inr x12=>
    some (Sum.inr x12)
  else some (Sum.inl ())) (0:Int)).bind fun y=>match y with
 | .inl x13=>
  some (true,())
 | .inr x13=>
  some (x13,()):=by kernel_rfl
def c_sl12Said:TC:=
 (zS [zAm 2,zAa 4] (zQ (.join [] 4194288 (some [⟨4,[.i .i64],false⟩]) (zS [zAa 5] (.block 0 (.loop [⟨5,[.i .i64],false⟩] 4194288 (zQ (zS [zAb 6 5,zIj 7 2 14 7,zAc 9 8,zAg 10 6 9] (zC 10 .skip (.exit 0))) (zQ (.block 1 (zS [zAn 13,zAo 14 2 14 13,zAb 15 5,zKx 16 14 15 6 1,zAb 19 1,zEb 20 18 19] (zC 20 (zS [zJc 21 5 4] .ret) .skip))) (zR [zIo 11 5 5]))))))) (zS [zAf] .ret)))
def s_sl12Said:Sig:=⟨[.rd true Ct2,.rd false [.d]],(.one false [.d])⟩
def E_sl12Said:TEnv:=envOf []
def f_sl12Said (n:Nat):Zt4 × Int->Option ((Int) × Unit):=runFn n E_sl12Said c_sl12Said [Ty3,[.i .i64]] [.i .i64] [] [4] .no
def g_sl12Said:=f_sl12Said BIG
def p_sl12Said:TSp:=⟨s_sl12Said,[Ty3,[.i .i64]],[.i .i64],[],Ou.j .no,g_sl12Said⟩
theorem k_sl12Said:zK E_sl12Said 142 s_sl12Said c_sl12Said 22 .no [4]:=by show _=_;kernel_rfl
theorem ok_sl12Said:p_sl12Said.Ok PG 142:=mkOk (env_nil PG) k_sl12Said (by kernel_rfl)
theorem e_sl12Said (n) (a0) (a1):f_sl12Said n (a0,a1) = (loopT n (X:=Int) (B:=(Unit) ⊕ (Int)) (fun self1 x0=> bif decide (x0<(a0.2.2.2.2.2.2.2.2.2.2.2.2.2.2.length:Int)) then bnd a0.2.2.2.2.2.2.2.2.2.2.2.2.2.2.length x0 fun n2=> a0.2.2.2.2.2.2.2.2.2.2.2.2.2.2[n2]?.bind fun y3=> bif decide (y3.1=a1) then some (Sum.inr x0) else self1 (IntKind.wrap .i64 (x0+1)) else some (Sum.inl ())) (0:Int)).bind fun y=>match y with | .inl x4=> some ((-1:Int),()) | .inr x4=> some (x4,()):=by kernel_rfl
def c_sl05SameEdges:TC:=
 (zS [zBo 4] (zQ (zS [zKj 6 0 6 8 1 8] (zC 10 (zS [zBo 4] .ret) .skip)) (zQ (.join [] 67106864 (some [⟨4,[.b],false⟩]) (zS [zAa 5] (.block 0 (.loop [⟨5,[.i .i64],false⟩] 67106864 (zQ (zS [zIr 11 5 0] (zC 14 .skip (.exit 0))) (zQ (.block 1 (zS [zKf 17 0 5 21 1 5 2 2 2 2,zEc 25 20 24] (zC 25 (zS [zBo 4] .ret) .skip))) (zR [zIo 15 5 5]))))))) (zS [zDh 4] .ret))))
def s_sl05SameEdges:Sig:=⟨[.rd false Ct20,.rd false Ct20],(.one false [.d])⟩
def E_sl05SameEdges:TEnv:=envOf []
def f_sl05SameEdges (n:Nat):(List Zt20) × (List Zt20)->Option ((Bool) × Unit):=runFn n E_sl05SameEdges c_sl05SameEdges [[.sl [.i .i64,.i .i64]],[.sl [.i .i64,.i .i64]]] [.b] [] [4] .no
def g_sl05SameEdges:=f_sl05SameEdges BIG
def p_sl05SameEdges:TSp:=⟨s_sl05SameEdges,[[.sl [.i .i64,.i .i64]],[.sl [.i .i64,.i .i64]]],[.b],[],Ou.j .no,g_sl05SameEdges⟩
theorem k_sl05SameEdges:zK E_sl05SameEdges 103 s_sl05SameEdges c_sl05SameEdges 26 .no [4]:=by show _=_;kernel_rfl
theorem ok_sl05SameEdges:p_sl05SameEdges.Ok PG 103:=mkOk (env_nil PG) k_sl05SameEdges (by kernel_rfl)
theorem e_sl05SameEdges (n) (a0) (a1):f_sl05SameEdges n (a0,a1) = bif !decide ((a0.length:Int)=(a1.length:Int)) then some (false,()) else (loopT n (X:=Int) (B:=(Unit) ⊕ (Bool)) (fun self1 x0=> bif decide (x0<(a0.length:Int)) then bnd a0.length x0 fun n2=> a0[n2]?.bind fun y3=> bnd a1.length x0 fun n4=> a1[n4]?.bind fun y5=> bif !(decide (y3.1=y5.1)&&(decide (y3.2=y5.2)&&true)) then some (Sum.inr false) else self1 (IntKind.wrap .i64 (x0+1)) else some (Sum.inl ())) (0:Int)).bind fun y=>match y with | .inl x6=> some (true,()) | .inr x6=> some (x6,()):=by kernel_rfl
def c_sl09SameOrder:TC:=
 (zS [zJB 2 1] (zQ (.join [⟨4,[.b],false⟩] 2147483632 none (zR [zLd 5 2 0 5 7 3 0 7,zEb 9 6 8,zKi 10 9 5 2 1 5,zIA 13 5 3 1 5,zEd 15 12 14 5,zIx 10 15 16,zKE 18 12 2 3 3 3,zEd 22 19 21 12,zIx 17 22 23,zKE 25 19 2 2 3 2,zDy 103 26 28 29 29 19,zJe 24 29 30 4])) .ret))
def s_sl09SameOrder:Sig:=⟨[.rd true Ct14,.rd true Ct14],(.one false [.d])⟩
def E_sl09SameOrder:TEnv:=envOf [(103,p_sl05SameEdges)]
def f_sl09SameOrder (n:Nat):Zt13 × Zt13->Option ((Bool) × Unit):=runFn n E_sl09SameOrder c_sl09SameOrder [Ty14,Ty14] [.b] [] [4] .no
def g_sl09SameOrder:=f_sl09SameOrder BIG
def p_sl09SameOrder:TSp:=⟨s_sl09SameOrder,[Ty14,Ty14],[.b],[],Ou.j .no,g_sl09SameOrder⟩
theorem k_sl09SameOrder:zK E_sl09SameOrder 193 s_sl09SameOrder c_sl09SameOrder 31 .no [4]:=by show _=_;kernel_rfl
theorem ok_sl09SameOrder:p_sl09SameOrder.Ok PG 193:=mkOk (env_cons ok_sl05SameEdges (env_nil PG)) k_sl09SameOrder (by kernel_rfl)
theorem e_sl09SameOrder (n) (a0) (a1):f_sl09SameOrder n (a0,a1) = (bif decide (a0.1=a1.1) then bif decide (a0.2.1=a1.2.1) then bif decide (a0.2.2.2=a1.2.2.2) then (g_sl05SameEdges (a0.2.2.1,a1.2.2.1)).bind fun r0=> some r0.1 else some false else some false else some false).bind fun x1=> some (x1,()):=by kernel_rfl
def c_sl12BlankTask:TC:=
 (zS [zKh 1] (zQ (.join [⟨2,[.b],false⟩] 262140 none (zR [zAn 3,zAp 4 1 0 3 4,[o1 5 (.build Ty19 [])],zEe 6 4 5,zAb 7 6,zDm 8 4,zDn 9 1 4 8 4,zEf 10 9 4,zIx 7 10 11,zDm 13 9,zEg 14 1 5 13 4 9,[o2 15 (.build Ty14 []) 9 true],zDy 193 14 15 16 16 9,zJe 12 16 17 2])) .ret))
def s_sl12BlankTask:Sig:=⟨[.rd true Ct8],(.one false [.d])⟩
def E_sl12BlankTask:TEnv:=envOf [(193,p_sl09SameOrder)]
def f_sl12BlankTask (n:Nat):Zt9->Option ((Bool) × Unit):=runFn n E_sl12BlankTask c_sl12BlankTask [Ty8] [.b] [] [2] .no
def g_sl12BlankTask:=f_sl12BlankTask BIG
def p_sl12BlankTask:TSp:=⟨s_sl12BlankTask,[Ty8],[.b],[],Ou.j .no,g_sl12BlankTask⟩
theorem k_sl12BlankTask:zK E_sl12BlankTask 191 s_sl12BlankTask c_sl12BlankTask 18 .no [2]:=by show _=_;kernel_rfl
theorem ok_sl12BlankTask:p_sl12BlankTask.Ok PG 191:=mkOk (env_cons ok_sl09SameOrder (env_nil PG)) k_sl12BlankTask (by kernel_rfl)
theorem e_sl12BlankTask (n) (a0):f_sl12BlankTask n a0 = (bif (decide (a0.1=0)&&(decide (a0.2.1=0)&&(decide (a0.2.2.1=0)&&(decide (a0.2.2.2.1=0)&&true)))) then bif decide (a0.2.2.2.2.1=0) then (g_sl09SameOrder (a0.2.2.2.2.2,((0:Int),(0:Int),[],(0:Int)))).bind fun r0=> some r0.1 else some false else some false).bind fun x1=> some (x1,()):=by kernel_rfl
def c_sOrderOk:TC:=
 (zS [zJp 3 1] (zQ (.seq (.join [⟨26,[.b],false⟩] 134217696 none (zR [zAb 5 0,zBy 6 139 5 12,zBz 7 6,zAb 8 7,zDr 9 3,zDs 10 3 0 9 3,zKt 139 10 100000 11 11 3 3 8,zIq 15 9 3 1 9,zKt 139 16 4 17 17 9 9 14,zBA 21 0 15,zIw 22 15 3 2,zEh 180 21 23 24 24 15,zIt 25 24 15 20])) (zC 26 (zS [zBo 4] .ret) .skip)) (zQ (zS [zIf 27 3 1] (.block 0 (zS [zEi 30 28 3,zAb 29 30] (zC 29 (zQ (.join [⟨4,[.b],false⟩] 4395899027472 none (zR [zJq 31 3 2,zEi 34 33 0,zKi 35 34 4 3 3 4,zBq 38 0 4,zKn 39 38 4 139 37 4,zJe 35 40 41 4])) .ret) (zS [zEi 43 28 4,zAb 42 43] (zC 42 (zQ (.join [⟨4,[.b],false⟩] 8989607068696592 none (zR [zJq 44 3 2,[o1 47 (.data (.bin .gtr) [.t 46,kD 0])],zKi 48 47 4 3 3 4,zEf 51 50 4,zJe 48 51 52 4])) .ret) .skip)))))) (zQ (.join [⟨4,[.b],false⟩] 4602678819172646928 none (zR [zJq 53 3 2,zEi 56 55 1,zKi 57 56 4 3 3 4,zEf 60 59 4,zJe 57 60 61 4])) .ret))))
def s_sOrderOk:Sig:=⟨[.rd false [.d],.rd true Ct14],(.one false [.d])⟩
def E_sOrderOk:TEnv:=envOf [(139,p_sl01In),(180,p_sl05Edges)]
def f_sOrderOk (n:Nat):Int × Zt13->Option ((Bool) × Unit):=runFn n E_sOrderOk c_sOrderOk [[.i .i64],Ty14] [.b] [] [4] .no
def g_sOrderOk:=f_sOrderOk BIG
def p_sOrderOk:TSp:=⟨s_sOrderOk,[[.i .i64],Ty14],[.b],[],Ou.j .no,g_sOrderOk⟩
theorem k_sOrderOk:zK E_sOrderOk 192 s_sOrderOk c_sOrderOk 62 .no [4]:=by show _=_;kernel_rfl
theorem ok_sOrderOk:p_sOrderOk.Ok PG 192:=mkOk (env_cons ok_sl01In (env_cons ok_sl05Edges (env_nil PG))) k_sOrderOk (by kernel_rfl)
theorem e_sOrderOk (n) (a0) (a1):f_sOrderOk n (a0,a1) = ((g_sl01In (a0,(1:Int),(12:Int))).bind fun r0=> bif !r0.1 then some true else (g_sl01In (a1.1,(1:Int),(100000:Int))).bind fun r1=> bif !r1.1 then some true else (g_sl01In (a1.2.1,(1:Int),(4:Int))).bind fun r2=> bif !r2.1 then some true else (g_sl05Edges (a0,a1.2.2.1)).bind fun r3=> some !r3.1).bind fun x4=> bif x4 then some (false,()) else bif decide (a1.2.1=3) then (bif decide ((a1.2.2.1.length:Int)=0) then (g_sl01In (a1.2.2.2,(0:Int),IntKind.wrap .i64 (a0-1))).bind fun r5=> some r5.1 else some false).bind fun x6=> some (x6,()) else bif decide (a1.2.1=4) then (bif decide (0<(a1.2.2.1.length:Int)) then some (decide (a1.2.2.2=0)) else some false).bind fun x7=> some (x7,()) else (bif decide ((a1.2.2.1.length:Int)=1) then some (decide (a1.2.2.2=0)) else some false).bind fun x8=> some (x8,()):=by kernel_rfl
def c_sl12Right:TC:=
 (zS [zJB 2 1] (zQ (.seq (.join [⟨17,[.b],false⟩] 262112 none (zR [zIj 5 3 1 5,zBy 7 139 6 4,zBz 8 7,zKz 9 8 4 3 2 4,zIq 12 4 2 0 4,zEj 14 13 4,zEk 139 11 0 14 15 15 4,zIt 16 15 4 9])) (zC 17 (zS [zBo 4] .ret) .skip)) (zQ (zS [zIf 18 3 1] (.block 0 (zS [zEi 21 19 4,zAb 20 21] (zC 20 (zS [zIv 22 3 3 2 3,zAc 26 25,zEm 27 139 23 1 26,zAb 4 27] .ret) (zS [zEi 29 19 3,zAb 28 29] (zC 28 (zS [zIv 30 3 3 2 0,zEn 34 33,zDC 35 139 31 34,zAb 4 35] .ret) .skip)))))) (zQ (.join [⟨4,[.b],false⟩] 562881233944592 none (zR [zIv 36 3 3 2 0,zEn 40 39,zDC 41 139 37 40,zKi 42 41 6 3 2 6,zIA 45 6 3 3 6,[o2 47 (.data (.bin .neq) [.t 44,.t 46]) 6 true],zJe 42 47 48 4])) .ret))))
def s_sl12Right:Sig:=⟨[.rd true Ct2,.rd true [.d,.d,.d,.d]],(.one false [.d])⟩
def E_sl12Right:TEnv:=envOf [(139,p_sl01In)]
def f_sl12Right (n:Nat):Zt4 × Zt19->Option ((Bool) × Unit):=runFn n E_sl12Right c_sl12Right [Ty3,Ty19] [.b] [] [4] .no
def g_sl12Right:=f_sl12Right BIG
def p_sl12Right:TSp:=⟨s_sl12Right,[Ty3,Ty19],[.b],[],Ou.j .no,g_sl12Right⟩
theorem k_sl12Right:zK E_sl12Right 143 s_sl12Right c_sl12Right 49 .no [4]:=by show _=_;kernel_rfl
theorem ok_sl12Right:p_sl12Right.Ok PG 143:=mkOk (env_cons ok_sl01In (env_nil PG)) k_sl12Right (by kernel_rfl)
theorem e_sl12Right (n) (a0) (a1):f_sl12Right n (a0,a1) = ((g_sl01In (a1.2.1,(1:Int),(4:Int))).bind fun r0=> bif !r0.1 then some true else (g_sl01In (a1.2.2.1,(0:Int),IntKind.wrap .i64 (a0.1-1))).bind fun r1=> some !r1.1).bind fun x2=> bif x2 then some (false,()) else bif decide (a1.2.1=4) then (g_sl01In (a1.2.2.2,(1:Int),(a0.2.2.2.1.length:Int))).bind fun r3=> some (r3.1,()) else bif decide (a1.2.1=3) then (g_sl01In (a1.2.2.2,(0:Int),IntKind.wrap .i64 (a0.1-1))).bind fun r4=> some (r4.1,()) else ((g_sl01In (a1.2.2.2,(0:Int),IntKind.wrap .i64 (a0.1-1))).bind fun r5=> bif r5.1 then some (!decide (a1.2.2.1=a1.2.2.2)) else some false).bind fun x6=> some (x6,()):=by kernel_rfl
def c_sl12TaskOk:TC:=
 (zS [zKh 1] (zS [zAn 4,zAp 5 1 5 4 9,zBc 3 1000000004,zAy 3 3 5] (zQ (zS [zLe 6 3 9 191 6] (zC 7 (zS [zDh 2] .ret) .skip)) (zQ (.join [⟨2,[.b],false⟩] 2305843009213693700 none (zR [zIj 8 3 4 8,zJq 10 1 3,zEm 13 139 9 1 12,zKi 14 13 6 1 0 6,zDm 17 6,zEg 18 3 5 17 4 6,zDy 192 16 18 19 19 6,zIx 14 19 20,zKp 22 13 3 5,zKE 25 13 1 4 3 4,zDo 29 28 13,zDw 30 26 29 13,zEp 31 26 1 30 13,zEq 32 31 13,zEd 33 24 32 13,zIx 21 33 34,zEr 36 1 15 27,zKp 37 27 3 0,zDy 142 36 39 40 40 27,zEs 41 40,zIx 35 41 42,zEr 44 1 15 35,zDm 45 35,zEg 46 3 0 45 4 35,zDy 143 44 46 47 47 35,zIx 43 47 48,zKp 50 41 3 1,zEt 53 52 3 41,zIx 49 53 54,zKp 56 47 3 0,zEu 139 58 59 59 47,zJe 55 59 60 2])) .ret))))
def s_sl12TaskOk:Sig:=⟨[.rd true Ct2],(.one false [.d])⟩
def E_sl12TaskOk:TEnv:=envOf [(191,p_sl12BlankTask),(139,p_sl01In),(192,p_sOrderOk),(142,p_sl12Said),(143,p_sl12Right)]
def f_sl12TaskOk (n:Nat):Zt4->Option ((Bool) × Unit):=runFn n E_sl12TaskOk c_sl12TaskOk [Ty3] [.b] [] [2] .no
def g_sl12TaskOk:=f_sl12TaskOk BIG
def p_sl12TaskOk:TSp:=⟨s_sl12TaskOk,[Ty3],[.b],[],Ou.j .no,g_sl12TaskOk⟩
theorem k_sl12TaskOk:zK E_sl12TaskOk 182 s_sl12TaskOk c_sl12TaskOk 61 .no [2]:=by show _=_;kernel_rfl
theorem ok_sl12TaskOk:p_sl12TaskOk.Ok PG 182:=mkOk (env_cons ok_sl12BlankTask (env_cons ok_sl01In (env_cons ok_sOrderOk (env_cons ok_sl12Said (env_cons ok_sl12Right (env_nil PG)))))) k_sl12TaskOk (by kernel_rfl)
theorem e_sl12TaskOk (n) (a0):f_sl12TaskOk n a0 = (g_sl12BlankTask (a0.2.2.2.2.2.1,a0.2.2.2.2.2.2.1,a0.2.2.2.2.2.2.2.1,a0.2.2.2.2.2.2.2.2.1,a0.2.2.2.2.2.2.2.2.2.1,a0.2.2.2.2.2.2.2.2.2.2.1,a0.2.2.2.2.2.2.2.2.2.2.2.1,a0.2.2.2.2.2.2.2.2.2.2.2.2.1,a0.2.2.2.2.2.2.2.2.2.2.2.2.2.1)).bind fun r0=> bif r0.1 then some (true,()) else ((g_sl01In (a0.2.2.2.2.2.2.2.2.2.1,(1:Int),(a0.2.2.2.1.length:Int))).bind fun r1=> bif r1.1 then (g_sOrderOk (a0.1,(a0.2.2.2.2.2.2.2.2.2.2.1,a0.2.2.2.2.2.2.2.2.2.2.2.1,a0.2.2.2.2.2.2.2.2.2.2.2.2.1,a0.2.2.2.2.2.2.2.2.2.2.2.2.2.1))).bind fun r2=> bif r2.1 then bnd a0.2.2.2.2.1.length (IntKind.wrap .i64 (a0.2.2.2.2.2.2.2.2.2.1-1)) fun n3=> a0.2.2.2.2.1[n3]?.bind fun y4=> bif decide (a0.2.2.2.2.2.2.2.2.2.2.1=(IntKind.wrap .i64 (y4+1))) then (g_sl12Said (a0,a0.2.2.2.2.2.1)).bind fun r5=> bif decide (r5.1<0) then (g_sl12Right (a0,(a0.2.2.2.2.2.1,a0.2.2.2.2.2.2.1,a0.2.2.2.2.2.2.2.1,a0.2.2.2.2.2.2.2.2.1))).bind fun r6=> bif r6.1 then bif !decide (a0.2.2.2.2.2.2.1=3) then (g_sl01In (a0.2.2.2.2.2.1,(1:Int),(100000:Int))).bind fun r7=> some r7.1 else some false else some false else some false else some false else some false else some false).bind fun x8=> some (x8,()):=by kernel_rfl
end
end Go.Fw
