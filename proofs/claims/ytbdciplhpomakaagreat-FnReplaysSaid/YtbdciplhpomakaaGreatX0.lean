/- The given functions, as what they compute; each is shown to be what the code does. No conditions. -/
import Derived.Test.YtbdciplhpomakaaGreatG5
import Derived.Test.YtbdciplhpomakaaGreatProg
set_option linter.unusedSectionVars false
namespace Go.Fw
noncomputable abbrev PG:=Go.Proofs.Tryz.prog
def o2 (d:Nat) (e:ED) (j:Nat) (b:Bool):TO:=⟨false,[],[],.det 1 e,[d],some d,some (j,b)⟩
def o3 (d:Nat) (K:FuncId) (gets:List OY):TO:=⟨false,[],[],.call 1 K gets .no,[d],some d,none⟩
def o4 (n:Nat) (ds:List Nat) (e:ED):TO:=⟨false,[],[],.det n e,ds,none,none⟩
abbrev Ty0 : List TY := [.i .i64, .sl [.i .i64], .sl [.i .i64, .i .i64], .sl [.sl [.i .i64]], .sl [.i .i64], .i .i64, .i .i64, .i .i64, .i .i64, .i .i64, .i .i64, .i .i64, .sl [.i .i64, .i .i64], .i .i64, .sl [.i .i64, .i .i64, .i .i64, .i .i64, .i .i64, .i .i64], .i .i64]
abbrev Ty1 : List TY := [.i .i64, .sl [.i .i64], .sl [.i .i64, .i .i64], .sl [.sl [.i .i64]], .sl [.i .i64], .i .i64, .i .i64, .i .i64, .i .i64, .i .i64, .i .i64, .i .i64, .sl [.i .i64, .i .i64], .i .i64, .sl [.i .i64, .i .i64, .i .i64, .i .i64, .i .i64, .i .i64], .b]
abbrev bE : List TY := [.i .i64, .sl [.i .i64], .sl [.i .i64, .i .i64], .sl [.sl [.i .i64]], .sl [.i .i64], .i .i64, .i .i64, .i .i64, .i .i64, .i .i64, .i .i64, .i .i64, .sl [.i .i64, .i .i64], .i .i64, .sl [.i .i64, .i .i64, .i .i64, .i .i64, .i .i64, .i .i64]]
abbrev Ty3 : List TY := [.i .i64, .i .i64, .sl [.i .i64, .i .i64, .i .i64, .i .i64, .i .i64, .i .i64, .i .i64, .b, .sl [.i .i64, .i .i64], .sl [.i .i64], .i .i64, .i .i64, .sl [.i .i64, .i .i64], .i .i64]]
abbrev Ty4 : List TY := [.i .i64, .i .i64, .sl [.i .i64, .i .i64, .i .i64, .b], .i .i64, .b, .sl [.i .i64, .i .i64], .sl [.i .i64], .i .i64, .b, .sl [.i .i64, .i .i64], .sl [.i .i64], .i .i64]
abbrev yE : List TY := [.sl [.i .i64, .i .i64, .i .i64, .i .i64, .i .i64, .i .i64, .i .i64, .b, .sl [.i .i64, .i .i64], .sl [.i .i64], .i .i64, .i .i64, .sl [.i .i64, .i .i64], .i .i64]]
abbrev Ty6 : List TY := [.i .i64, .i .i64, .i .i64, .i .i64, .i .i64, .i .i64, .i .i64, .b, .sl [.i .i64, .i .i64], .sl [.i .i64], .i .i64, .i .i64, .sl [.i .i64, .i .i64], .i .i64]
abbrev Ty7 : List TY := [.sl [.i .i64, .i .i64, .sl [.i .i64, .i .i64, .i .i64, .b], .i .i64, .b, .sl [.i .i64, .i .i64], .sl [.i .i64]]]
abbrev Ty8 : List TY := [.i .i64, .i .i64, .sl [.i .i64, .i .i64, .i .i64, .b], .i .i64, .b, .sl [.i .i64, .i .i64], .sl [.i .i64], .b]
abbrev gN : List TY := [.i .i64, .i .i64, .sl [.i .i64, .i .i64, .i .i64, .b], .i .i64, .b, .sl [.i .i64, .i .i64], .sl [.i .i64]]
abbrev DY : List TY := [.i .i64, .i .i64, .i .i64, .i .i64, .i .i64, .i .i64, .i .i64, .sl [.i .i64, .i .i64], .i .i64]
abbrev apC : List TY := [.i .i64, .sl [.i .i64, .i .i64, .i .i64, .b], .i .i64, .i .i64, .b, .b]
abbrev Oy : List TY := [.sl [.i .i64, .i .i64, .i .i64, .i .i64, .i .i64, .i .i64]]
abbrev apD : List TY := [.i .i64, .i .i64, .i .i64, .i .i64, .i .i64, .i .i64]
abbrev iL : List TY := [.i .i64, .b, .sl [.i .i64, .i .i64], .sl [.i .i64]]
abbrev kH : List TY := [.i .i64, .i .i64, .sl [.i .i64, .i .i64], .i .i64]
abbrev Oz : List TY := [.i .i64, .sl [.i .i64, .i .i64, .i .i64, .b], .b]
abbrev bK : List TY := [.i .i64, .sl [.i .i64, .i .i64, .i .i64, .b]]
abbrev apE : List TY := [.i .i64, .sl [.i .i64, .i .i64], .b]
abbrev oU : List TY := [.sl [.i .i64, .i .i64, .i .i64, .b]]
abbrev fV : List TY := [.i .i64, .i .i64, .i .i64, .i .i64]
abbrev kU : List TY := [.i .i64, .sl [.i .i64, .i .i64]]
abbrev gZ : List TY := [.sl [.i .u8], .i .i64, .i .i64]
abbrev qN : List TY := [.i .i64, .i .i64, .i .i64, .b]
abbrev uk : List TY := [.i .i64, .sl [.sl [.i .i64]]]
abbrev Ct0:List CT:=[.d,.sl (.own none) [.d],.sl (.own none) [.d,.d],.sl (.own none) [.sl (.own none) [.d]],.sl (.own none) [.d],.d,.d,.d,.d,.d,.d,.d,.sl (.own none) [.d,.d],.d,.sl (.own none) [.d,.d,.d,.d,.d,.d],.d]
abbrev pq:List CT:=[.d,.sl (.own none) [.d],.sl (.own none) [.d,.d],.sl (.own none) [.sl (.own none) [.d]],.sl (.own none) [.d],.d,.d,.d,.d,.d,.d,.d,.sl (.own none) [.d,.d],.d,.sl (.own none) [.d,.d,.d,.d,.d,.d]]
abbrev Ct2:List CT:=[.sl (.own none) [.d,.d,.d,.d,.d,.d,.d,.d,.sl (.own none) [.d,.d],.sl (.own none) [.d],.d,.d,.sl (.own none) [.d,.d],.d]]
abbrev Ct3:List CT:=[.d,.d,.sl (.own none) [.d,.d,.d,.d],.d,.d,.sl (.own none) [.d,.d],.sl (.own none) [.d],.d]
abbrev OA:List CT:=[.d,.d,.sl (.own none) [.d,.d,.d,.d],.d,.d,.sl (.own none) [.d,.d],.sl (.own none) [.d]]
abbrev M0:List CT:=[.d,.d,.sl (.own none) [.d,.d],.sl (.own none) [.d]]
abbrev Ct6:List CT:=[.d,.d,.d,.d,.d,.d,.d,.sl (.own none) [.d,.d],.d]
abbrev Ct7:List CT:=[.d,.sl (.own none) [.d,.d,.d,.d],.d]
abbrev Ct8:List CT:=[.sl (.own none) [.d,.d,.d,.d,.d,.d]]
abbrev OC:List CT:=[.d,.d,.sl (.own none) [.d,.d],.d]
abbrev nJ:List CT:=[.d,.sl (.own none) [.d,.d,.d,.d]]
abbrev OD:List CT:=[.d,.sl (.own none) [.d,.d]]
abbrev iM:List CT:=[.sl (.own none) [.d,.d]]
abbrev apG:List CT:=[.sl (.own none) [.d],.d]
abbrev fG:List CT:=[.sl (.own none) [.d]]
abbrev awl:List CT:=[.d,.d,.d,.d,.d,.d]
def oc (d s:Nat):TO:=o1 d (.copy s)
def oi (d:Nat):TO:=o1 d (.idx .nil)
def o5 (e:ED) (d x:Nat):TO:=⟨false,[],[],.det 2 e,[d,x],some d,none⟩
def o6 (d s:Nat):TO:=⟨true,[],[],.det 1 (.copy s),[d],some d,none⟩
def o7 (a:Nat) (x y:DX) (d:Nat):TO:=⟨false,[],[],.pick a x y,[d],some d,none⟩
abbrev kV (n:Int):Value:=.int .i64 n
abbrev kO (n:Int):OY:=.c [.i .i64] [kV n]
abbrev kD (n:Int):DX:=.c (kV n)
abbrev kL (n:Int):ED:=.lit [.i .i64] [kV n]
abbrev iI:TY:=.i .i64
def zS (l:List (List TO)) (c:TC):TC:=.seq (.rg l.flatten) c
def zR (l:List (List TO)):TC:=.rg l.flatten
def zQ (a b:TC):TC:=.seq a b
def zC (x:Nat) (a b:TC):TC:=.cond (.t x) a b
def bB (a:Nat):List TO:=[o1 a (.lit [.b] [.bool false])]
def au (a b:Nat):List TO:=[oc a b]
def mr (a b:Nat):List TO:=[o1 a (.len b)]
def YH (a b:Nat)(c:Int):List TO:=[o1 a (.data (.bin .gtr) [.t b,kD c])]
def zAe (a:Nat)(b:Int)(c:Nat):List TO:=[o1 a (.data (.bin .add) [kD b,.t c])]
def bO (a:Nat):List TO:=[o1 a (kL 0)]
def gH (a b c:Nat):List TO:=[o1 a (.data (.bin .lss) [.t b,.t c])]
def iJ (a b c:Nat):List TO:=[o2 a (.copy b) c true]
def zAi (a b:Nat)(c:Int)(d:Nat):List TO:=[o2 a (.data (.bin .lss) [.t b,kD c]) d true]
def pu (a b c:Nat):List TO:=[o7 a (.t b) (.c (.bool false)) c]
def zAk (a b:Nat)(c:Int):List TO:=[o1 a (.data (.bin .mul) [.t b,kD c])]
def xg (a b c:Nat):List TO:=[o1 a (.index b (.t c))]
def YI (a b c d:Nat):List TO:=[o1 a (.load b [(0,c)] 0 (.t d) 1 false)]
def zAo (a b c:Nat):List TO:=[o1 a (.data (.bin .add) [.t b,.t c])]
def zAp (a b:Nat)(c:Int):List TO:=[o1 a (.data (.bin .and) [.t b,kD c])]
def BZ (a b:Nat):List TO:=[o1 a (.data (.bin .add) [.t b,kD 1])]
def dN (a b:Nat):List TO:=[o1 a (.a (.t b))]
def dD (a:Nat):List TO:=[o1 a (.p0)]
def su (a b:Nat):List TO:=[o1 a (.same b)]
def JC (a b:Nat):List TO:=[o1 a (.idx (.t b))]
def OE (a b c d:Nat):List TO:=[o1 a (.load b [] c (.t d) 1 false)]
def zAw (a b c d e:Nat):List TO:=[o4 1 [a] (.store b [] c (.t d) (.t e))]
def zAx (a b c:Nat):List TO:=[o1 a (.data (.bin .shr) [.t b,.c (.int .u64 (c))])]
def zAy (a b:Nat)(c:Int):List TO:=[o1 a (.data (.bin .leq) [.t b,kD c])]
def zAz (a b c:Nat):List TO:=[⟨false,[],[],.call 2 a [.t 0] (.mp 0),[b,0],(some c),none⟩]
def zAA (a b c:Nat):List TO:=[o1 a (.data (.bin .rem) [.t b,.t c])]
def zAB (a:Nat)(b:Int)(c d e:Nat):List TO:=[⟨false,[],[],.call 2 112 [.t a,kO b] (.mp 0),[c,d],(some e),none⟩]
def zAC (a b c:Nat):List TO:=[o1 a (.data (.bin .geq) [.t b,.t c])]
def zAD:List TO:=[o2 13 (.data (.bin .leq) [.t 11,.t 12]) 3 true]
def yF (a:Nat):List TO:=[o1 a (.lit [.sl [.i .i64]] [.slice none 0 0])]
def zBa (a:Nat):List TO:=[o1 a (.sli [.i .i64] [])]
def dK (a b c:Nat):List TO:=[o5 (.copy a) b c]
def JD (a b:Nat):List TO:=[o1 a (.sli [.i .i64] [.t b])]
def yG (a b c d:Nat):List TO:=[o5 (.app (some a) b) c d]
def gp (a b:Nat):List TO:=[o6 a b]
def zBf (a b c d e:Nat):List TO:=[o1 a (.load b [(0,c)] d (.t e) 1 false)]
def zBg (a b c d e f g h:Nat):List TO:=[o4 1 [a,b] (.store c [(d,e)] f (.t g) (.t h))]
def qi (a b:Nat):List TO:=[o5 (.a (.c bE [kV 0,.slice none 0 0,.slice none 0 0,.slice none 0 0,.slice none 0 0,kV 0,kV 0,kV 0,kV 0,kV 0,kV 0,kV 0,.slice none 0 0,kV 0,.slice none 0 0])) a b]
def pz (a b c:Nat)(d:Int):List TO:=[o3 a b [.t c,kO 1,kO d]]
def jT (a b:Nat):List TO:=[o1 a (.data .not [.t b])]
def jN (a b c:Nat):List TO:=[o2 a (.copy b) c false]
def zBm (a b:Nat)(c:Int)(d e f:Nat):List TO:=[⟨false,[],[],.call 1 a [.t b,kO 1,kO c] .no,[d],(some e),some (f,false)⟩]
def zBn (a b c:Nat):List TO:=[o2 a (.data .not [.t b]) c false]
def ru (a b c:Nat):List TO:=[o7 a (.c (.bool true)) (.t b) c]
def zBp (a:Nat):List TO:=[o1 a (.build bE [])]
def iY (a b c d:Nat):List TO:=[o4 2 [a,b] (.store c [] 0 .nil (.t d))]
def jy (a:Nat):List TO:=[oi a]
def zBs (a b c d:Nat):List TO:=[o1 a (.load b [] c (.t d) 1 true)]
def zBt (a b c d e f g h:Nat):List TO:=[⟨false,[a],[],.det 2 (.app (some b) c),[d,e,f,g],(some h),none⟩]
def zBu (a b c d e f g:Nat):List TO:=[o4 2 [a,b,c] (.store d [] e (.t f) (.t g))]
def YJ (a:Nat):List TO:=[o1 a (.sli [.i .i64,.i .i64] [])]
def jO (a b c d:Nat):List TO:=[o3 a b [.t c,.t d]]
def zBx (a b c:Nat):List TO:=[o5 (.sli [.sl [.i .i64]] [.t a]) b c]
def zBy (a b c d e f g h i:Nat):List TO:=[⟨false,[a],[],.det 3 (.app (some b) c),[d,e,f,g,h],(some i),none⟩]
def iZ (a b c:Nat):List TO:=[o1 a (.load b [] 0 .nil c true)]
def DZ (a b c d e f g:Nat):List TO:=[⟨false,[a],[],.det 2 (.store b [] 0 .nil (.t c)),[d,e,f,g],none,none⟩]
def ic (a:Nat):List TO:=[o1 a (.lit [.b] [.bool true])]
def D5 (a b:Nat):List TO:=[o5 (.a (.c bK [kV 0,.slice none 0 0])) a b]
def zBD (a:Nat):List TO:=[o1 a (.build bK [])]
def zBE (a b:Nat):List TO:=[o1 a (.build bK [(0,.t b)])]
def D6 (a b:Nat):List TO:=[o5 (.a (.c gN [kV 0,kV 0,.slice none 0 0,kV 0,.bool false,.slice none 0 0,.slice none 0 0])) a b]
def gI (a b c:Nat):List TO:=[o3 a b [.t c]]
def zDc (a b c d:Nat):List TO:=[o5 (.ext a 0 b) c d]
def xh (a b c:Nat):List TO:=[o1 a (.ext b c 1)]
def zDe (a:Nat):List TO:=[o1 a (.build gN [])]
def zDf:List TO:=[⟨false,[22],[],.det 2 (.build gN [(0,.t 21),(1,.t 22)]),[23,22,22,6],(some 23),none⟩]
def zDg (a b:Nat)(c:Int):List TO:=[o1 a (.data (.bin .quo) [.t b,kD c])]
def nZ (a:Nat)(b:Int):List TO:=[o1 a (kL b)]
def zDi (a b:Nat)(c:Int):List TO:=[o1 a (.data (.bin .neq) [.t b,kD c])]
def Tp (a b c d:Nat):List TO:=[⟨false,[],[],.call 2 a [.t 0,.t b] (.mp 0),[c,0],(some d),none⟩]
def zDk (a b:Nat):List TO:=[o5 (.a (.c fV [kV 0,kV 0,kV 0,kV 0])) a b]
def eB (a b c:Nat):List TO:=[o4 1 [a] (.store b [] 0 .nil (.t c))]
def xm (a b:Nat)(c:Int):List TO:=[o1 a (.data (.bin .eql) [.t b,kD c])]
def dP (a b c:Nat):List TO:=[o1 a (.load b [] 0 .nil c false)]
def zDp (a b:Nat):List TO:=[o5 (.a (.c kH [kV 0,kV 0,.slice none 0 0,kV 0])) a b]
def F8 (a b c d:Nat):List TO:=[o4 2 [1,a] (.store 1 [] b (.t c) (.t d))]
def zDr (a b c d e f:Nat):List TO:=[⟨false,[],[],.det 3 (.app (some a) b),[c,d,e],(some f),none⟩]
def JE (a b c d e:Nat):List TO:=[o1 a (.load b [] c (.t d) e false)]
def ry (a b:Nat):List TO:=[o2 a (.idx .nil) b true]
def B_ (a b c d e:Nat):List TO:=[o2 a (.load b [] c (.t d) 1 false) e true]
def zDv (a b c:Nat):List TO:=[o2 a (.data (.bin .sub) [.t b,kD 1]) c true]
def zDw (a b c d e f:Nat):List TO:=[⟨false,[],[],.call 1 a [.t b,kO 0,.t c] .no,[d],(some e),some (f,true)⟩]
def zDx (a b c d:Nat):List TO:=[o2 a (.data (.bin .lss) [.t b,.t c]) d true]
def n_ (a b:Nat):List TO:=[o2 a (.idx .nil) b false]
def F9 (a b c d e:Nat):List TO:=[o2 a (.load b [] c (.t d) 1 false) e false]
def zDA (a b c d:Nat):List TO:=[o2 a (.data (.bin .eql) [.t b,.t c]) d false]
def zDB (a b c d e:Nat):List TO:=[⟨false,[],[],.pick a (.t b) (.c (.bool false)),[c],(some d),some (e,false)⟩]
def zDC (a b c d e:Nat):List TO:=[o1 a (.load b [(0,c)] 0 (.t d) e false)]
def zDD (a b:Nat)(c:Int)(d:Nat):List TO:=[o2 a (.data (.bin .gtr) [.t b,kD c]) d false]
def rA (a b c d:Nat):List TO:=[o2 a (.index b (.t c)) d true]
def zEa (a b c d e f:Nat):List TO:=[o2 a (.load b [(0,c)] 0 (.t d) e false) f true]
def qj (a b c d e f:Nat):List TO:=[⟨false,[],[],.call 1 a [.t b,.t c] .no,[d],(some e),some (f,true)⟩]
def zEc (a b c:Nat):List TO:=[o2 a (.data .not [.t b]) c true]
def xn (a b c:Nat):List TO:=[o1 a (.data (.bin .neq) [.t b,.t c])]
def YK (a b c d:Nat):List TO:=[o3 a b [.t c,kO 0,.t d]]
def zEf (a b c d:Nat):List TO:=[o2 a (.index b (.t c)) d false]
def YL (a b c d e:Nat):List TO:=[o2 a (.load b [(0,c)] 0 (.t d) 1 false) e false]
def zEh (a b c d:Nat):List TO:=[o2 a (.data (.bin .neq) [.t b,.t c]) d false]
def pE (a b c:Nat):List TO:=[o1 a (.data (.bin .eql) [.t b,.t c])]
def zEj (a:Nat):List TO:=[o1 a (kL (-1))]
def zEk (a b c:Nat):List TO:=[o1 a (.eqA [.i,.i] (.t b) (.t c) true)]
def D7 (a b c d:Nat):List TO:=[o2 a (.data (.bin .eql) [.t b,.t c]) d true]
def zEn (a b c:Nat):List TO:=[o1 a (.eqA [.i,.i,.i,.i] (.t b) (.t c) false)]
def OG (a b c:Nat):List TO:=[o2 a (.data (.bin .eql) [.t b,kD 0]) c true]
def zEp (a b c d e f:Nat):List TO:=[o2 a (.load b [] c (.t d) e false) f true]
def yH (a b c d e f:Nat):List TO:=[⟨false,[],[],.call 1 a [.t b,.t c] .no,[d],(some e),some (f,false)⟩]
def zEr (a b c:Nat):List TO:=[o2 a (.data (.bin .sub) [.t b,kD 1]) c false]
def zEs (a b:Nat)(c:Int)(d e f g:Nat):List TO:=[⟨false,[],[],.call 1 a [.t b,kO c,.t d] .no,[e],(some f),some (g,false)⟩]
def zEt (a b c:Nat)(d:Int)(e:Nat):List TO:=[o3 a b [.t c,kO d,.t e]]
def yI (a b:Nat):List TO:=[o1 a (.data (.bin .sub) [.t b,kD 1])]
def zEv (a b c d:Nat):List TO:=[o2 a (.data (.bin .neq) [.t b,.t c]) d true]
def zEw (a b:Nat):List TO:=[o5 (.a (.c DY [kV 0,kV 0,kV 0,kV 0,kV 0,kV 0,kV 0,.slice none 0 0,kV 0])) a b]
def JF (a b c:Nat):List TO:=[o2 a (.idx (.t b)) c true]
def Ca (a b c d e:Nat):List TO:=[o2 a (.load b [(0,c)] 0 (.t d) 1 false) e true]
def zEz (a b c:Nat):List TO:=[o2 a (.data (.bin .add) [.t b,kD 1]) c true]
def zEA (a b c d:Nat):List TO:=[o2 a (.load b [] 0 .nil c false) d true]
def zEB (a b c d e:Nat):List TO:=[⟨false,[],[],.call 1 a [.t b,kO 1,kO 100000] .no,[c],(some d),some (e,true)⟩]
def JG (a b c:Nat):List TO:=[o2 a (.len b) c false]
def zED (a b:Nat)(c d:Int)(e f g:Nat):List TO:=[⟨false,[],[],.call 1 a [.t b,kO c,kO d] .no,[e],(some f),some (g,false)⟩]
def zEE (a b:Nat):List TO:=[o5 (.a (.c apD [kV 0,kV 0,kV 0,kV 0,kV 0,kV 0])) a b]
def D8 (a b c d:Nat):List TO:=[o2 a (.load b [] 0 .nil c false) d false]
def zGb (a b c:Nat):List TO:=[o1 a (.load 0 [] b (.t c) 1 true)]
def zGc (a b c d:Nat):List TO:=[o1 a (.build apD [(0,.t b),(1,.t c),(5,.t d)])]
def zGd (a b:Nat):List TO:=[o1 a (.sli apD [.t b])]
def zGe (a:Nat):List TO:=[o1 a (.build DY [])]
def zGf (a b c d e f:Nat):List TO:=[o4 2 [a,b] (.store c [] d (.t e) (.t f))]
def M3 (a b c:Nat):List TO:=[o1 a (.build [.i .i64,.i .i64] [(0,.t b),(1,.t c)])]
def zGh (a b:Nat):List TO:=[o1 a (.sli [.i .i64,.i .i64] [.t b])]
def zGi (a b c d e:Nat):List TO:=[o1 a (.load b [(c,d)] 0 (.t e) 1 false)]
def zGj:List TO:=[⟨false,[22],[],.det 2 (.build DY [(0,.t 20),(4,.t 21),(5,.t 22)]),[23,22,22,7],(some 23),none⟩]
def zGk:List TO:=[o4 2 [0,23,12,15] (.store 0 [] 5 (.t 25) (.t 23))]
def rC (a b:Nat):List TO:=[o5 (.a (.c [.i .i64,.i .i64] [kV 0,kV 0])) a b]
def A9 (a:Nat):List TO:=[o1 a (.lit [.sl [.i .i64,.i .i64]] [.slice none 0 0])]
def zGo (a b c d:Nat):List TO:=[o4 2 [0,a,16,19,24,27,48,b] (.store 0 [] 2 (.t c) (.t d))]
def OH (a b c:Nat)(d:Int)(e f g:Nat):List TO:=[⟨false,[],[],.call 2 a [.t b,.t c,kO d] (.mp 0),[e,f],(some g),none⟩]
def zGq (a b:Nat)(c:Int)(d:Nat):List TO:=[o2 a (.data (.bin .geq) [.t b,kD c]) d false]
def Tq (a b c d e:Nat):List TO:=[⟨false,[],[],.call 1 a [.t b] .no,[c],(some d),some (e,false)⟩]
def D9 (a b c d e:Nat):List TO:=[o3 a b [.t c,.t d,.t e]]
def zGt (a b c d e f g:Nat):List TO:=[⟨false,[],[],.call 2 a [.t b,.t c,.t d] (.mp 0),[e,f],(some g),none⟩]
def zGu (a b c d:Nat):List TO:=[⟨false,[],[a],.det 1 (.load 3 [] 0 .nil b false),[c],(some d),none⟩]
def zGv (a b c:Nat):List TO:=[⟨false,[],[a],.det 1 (.idx .nil),[b],(some c),none⟩]
def zGw (a b c d e f:Nat):List TO:=[⟨false,[],[a],.det 1 (.load b [] c (.t d) 1 false),[e],(some f),none⟩]
def zGx (a b c d e:Nat):List TO:=[⟨false,[],[a],.det 1 (.index b (.t c)),[d],(some e),none⟩]
def zGy (a b c d e f g:Nat):List TO:=[⟨false,[],[a],.det 1 (.load b [(c,d)] 0 (.t e) 1 false),[f],(some g),none⟩]
def zGz (a b:Nat):List TO:=[o5 (.build kH [(1,kO 3),(3,.t a)]) b 1000000002]
def zGA (a b c d e f g h i:Nat):List TO:=[⟨false,[],[],.call 3 a [.t b,.t c,.t d,.t e] (.mp 0),[f,g,h],(some i),none⟩]
def zGB (a b c d e f:Nat):List TO:=[⟨false,[],[],.call 2 a [.t b,.t c] (.mp 0),[d,e],(some f),none⟩]
def zGC (a b:Nat):List TO:=[o5 (.a (.c kU [kV 0,.slice none 0 0])) a b]
def Tt (a b:Nat):List TO:=[o5 (.a (.c qN [kV 0,kV 0,kV 0,.bool false])) a b]
def zGE (a b c d:Nat):List TO:=[o2 a (.data (.bin .geq) [.t b,.t c]) d true]
def zHa (a b c d e f g:Nat):List TO:=[o4 1 [a,b] (.store c [(d,e)] f (.t g) (.c [.b] [.bool true]))]
def zHb (a b:Nat):List TO:=[o5 (.a (.c uk [kV 0,.slice none 0 0])) a b]
def zHc (a b c d e f:Nat):List TO:=[⟨false,[a],[],.det 2 (.store b [] 0 .nil (.t c)),[d,e,f],none,none⟩]
def zHd (a b c d e:Nat):List TO:=[⟨true,[a],[],.det 1 (.copy b),[c,d],(some e),none⟩]
def YM (a b c d e:Nat):List TO:=[⟨false,[],[],.det 2 (.copy a),[b,c,d],(some e),none⟩]
def zHf (a b:Nat):List TO:=[o1 a (.index b (kD 0))]
def Tu (a b c d:Nat):List TO:=[⟨true,[],[],.det 1 (.copy a),[b],(some c),some (d,true)⟩]
def zHh (a b c:Nat):List TO:=[o2 a (.len b) c true]
def zHi (a b c d e f g:Nat):List TO:=[⟨false,[],[],.det 2 (.copy a),[b,c,d,e,f],(some g),none⟩]
def zHj (a b c d e:Nat):List TO:=[⟨false,[],[],.call 1 a [.t b] .no,[c],(some d),some (e,true)⟩]
def zHk (a:Nat):List TO:=[o2 a (.load 6 [] 0 .nil 2 true) 9 true]
def zHm (a:Nat):List TO:=[o1 a (.build iL [])]
def zHn (a b c:Nat):List TO:=[o3 a b [.t c,kO 0]]
def zHo (a b c d e f:Nat):List TO:=[o2 a (.load b [] c (.t d) e false) f false]
def xq (a b c:Nat):List TO:=[o2 a (.idx (.t b)) c false]
def zHq (a b:Nat):List TO:=[o5 (.a (.c iL [kV 0,.bool false,.slice none 0 0,.slice none 0 0])) a b]
def zHr:List TO:=[o5 (.build kU [(0,.t 23),(1,.t 27)]) 28 27]
def zHs (a b c d e f:Nat):List TO:=[o2 a (.load b [(0,c)] d (.t e) 1 false) f true]
def zHt (a b:Nat):List TO:=[o1 a (.sli qN [.t b])]
def zHu (a b c d:Nat):List TO:=[⟨false,[],[a],.det 1 (.load b [] 0 .nil 2 false),[c],(some d),none⟩]
def zHv (a b c d e:Nat):List TO:=[⟨false,[],[a],.call 1 b [.t c] .no,[d],(some e),none⟩]
def zHw (a b c:Nat):List TO:=[⟨false,[],[a],.det 1 (.load 3 [] 0 .nil 2 false),[b],(some c),none⟩]
def zHx (a b c d e f:Nat):List TO:=[⟨false,[],[a],.call 1 b [.t c,.t d] .no,[e],(some f),none⟩]
def zHy (a b c d e f:Nat):List TO:=[⟨false,[],[a],.det b (.copy c),[d,e],(some f),none⟩]
def zHz (a b c d e:Nat):List TO:=[⟨false,[],[a],.det 2 (.ext b 0 2),[c,d],(some e),none⟩]
def zHA (a b c d:Nat):List TO:=[⟨false,[],[a],.det 1 (.ext b 2 1),[c],(some d),none⟩]
def zHB (a b:Nat):List TO:=[⟨false,[],[1000000011],.det 1 (.load 8 [] 0 .nil 2 true),[a],(some b),none⟩]
def zHC (a:Nat):List TO:=[o1 a (.build [.i .i64,.i .i64] [])]
def zHD:List TO:=[⟨false,[],[3000004001],.det 1 (.lit [.b] [.bool false]),[6,4],(some 6),none⟩]
def zHE (a b:Nat):List TO:=[o1 a (.data (.bin .geq) [.t b,kD 0])]
def zIa (a b c d:Nat):List TO:=[⟨false,[],[a],.det 1 (.idx (.t b)),[c],(some d),none⟩]
def zIb (a b c d e f:Nat):List TO:=[⟨false,[],[a,b],.det 1 (.load c [] 0 .nil d false),[e],(some f),none⟩]
def zIc (a b c d:Nat):List TO:=[⟨false,[],[a,b],.det 1 (.idx .nil),[c],(some d),none⟩]
def zId (a b c d e f g:Nat):List TO:=[⟨false,[],[a,b],.det 1 (.load c [] d (.t e) 1 false),[f],(some g),none⟩]
def zIe (a b c d e:Nat):List TO:=[⟨false,[],[a,b],.det 1 (.index c (kD 0)),[d],(some e),none⟩]
def zIf (a b c d e f g h i:Nat):List TO:=[⟨false,[],[a,b],.det 1 (.load c [(0,d)] e (.t f) g false),[h],(some i),none⟩]
def zIg (a b c d e f g:Nat):List TO:=[⟨false,[],[a,b],.call 1 c [.t d,.t e] .no,[f],(some g),none⟩]
def zIh (a b c d e f:Nat):List TO:=[⟨false,[],[a,b],.det 2 (.copy c),[d,e],(some f),none⟩]
def zIi (a b c d e f g:Nat):List TO:=[⟨false,[],[a,b],.det 1 (.ext c d e),[f],(some g),none⟩]
def zIj (a b c d e f:Nat):List TO:=[⟨false,[],[a,b],.det 1 (.ext c d 1),[e],(some f),none⟩]
def zIk (a b c d:Nat):List TO:=[⟨false,[],[a],.det 2 (.a (.c bK [kV 0,.slice none 0 0])),[b,c],(some d),none⟩]
def zIm (a b c d:Nat):List TO:=[⟨false,[],[a],.det 2 (.a (.c [.i .i64,.i .i64] [kV 0,kV 0])),[b,c],(some d),none⟩]
def zIn (a b c d e:Nat):List TO:=[o5 (.ext a b c) d e]
def zIo (a b c d:Nat):List TO:=[⟨true,[],[],.det 1 (.copy a),[b],(some c),some (d,false)⟩]
def zIp (a b c d e:Nat):List TO:=[⟨false,[a],[],.det 1 (.copy b),[c,d],(some e),none⟩]
def zIq (a b c d e f:Nat):List TO:=[⟨false,[],[],.det 2 (.copy a),[b,c,d,e],(some f),none⟩]
def zIr (a:Int)(b c d e:Nat):List TO:=[⟨false,[],[],.det 3 (.build kH [(1,kO a),(2,.t b)]),[c,1000000002,d],(some e),none⟩]
def zIs (a b:Nat)(c:Int)(d:Nat):List TO:=[o2 a (.data (.bin .eql) [.t b,kD c]) d true]
def zIt (a:Nat):List TO:=[o1 a (.lit yE [.slice none 0 0])]
def zIu (a b c d e f:Nat):List TO:=[⟨false,[a],[],.det 2 (.copy b),[c,d,e],(some f),none⟩]
def zIv (a:Int)(b c d:Nat):List TO:=[o5 (.build Ty6 [(0,kO a),(b,.t c)]) d 1000000001]
def zIw (a b c:Nat):List TO:=[o5 (.sli Ty6 [.t a]) b c]
def zIx (a b c d e f:Nat):List TO:=[⟨false,[],[a,b],.det 1 (.index c (.t d)),[e],(some f),none⟩]
def zIy (a b c d e f g h:Nat):List TO:=[⟨false,[],[a,b],.det 2 (.ext c d e),[f,g],(some h),none⟩]
def zIz (a b c d:Nat):List TO:=[⟨false,[],[a],.det 2 (.a (.c gN [kV 0,kV 0,.slice none 0 0,kV 0,.bool false,.slice none 0 0,.slice none 0 0])),[b,c],(some d),none⟩]
def zIA (a b c d:Nat):List TO:=[⟨false,[],[a],.det 2 (.a (.c iL [kV 0,.bool false,.slice none 0 0,.slice none 0 0])),[b,c],(some d),none⟩]
def zIB (a b c d e f g:Nat):List TO:=[⟨false,[a],[],.det 2 (.app (some b) c),[d,e,f],(some g),none⟩]
def zIC (a b:Nat):List TO:=[o1 a (.app none b)]
def zID (a b c:Nat):List TO:=[o2 a (.data (.bin .neq) [.t b,kD 0]) c false]
def zIE (a b c d e f g h i:Nat):List TO:=[⟨false,[],[],.call 2 188 [.t a,.t b,.t c] (.mt d [] 0 e 0),[f,g,h],(some i),none⟩]
def zJa (a b c d:Nat):List TO:=[⟨false,[],[a],.det 1 (.same b),[c],(some d),none⟩]
def zJb (a b c d e f:Nat):List TO:=[⟨false,[],[a],.det 1 (.load b [] 1 (.t c) d true),[e],(some f),none⟩]
def zJc (a b c d:Nat):List TO:=[o4 2 [0,a,12,19,22,27,30,56,59,64,67,b] (.store 0 [] 2 (.t c) (.t d))]
def zJd (a b c d:Nat):List TO:=[o1 a (.load 0 [] b (.t c) d true)]
def zJe (a:Nat)(b:Int)(c d e:Nat):List TO:=[⟨false,[],[],.call 2 73 [.t 0,.t a,kO b] (.mp 0),[c,0,d],(some e),none⟩]
def zJf (a b c:Nat):List TO:=[o2 a (.same b) c true]
def zJg (a b c d:Nat):List TO:=[o2 a (.load b [] 1 (.t c) d true) 3 true]
def zJh (a b c:Nat):List TO:=[o2 a (.same b) c false]
def M4 (a b c d e:Nat):List TO:=[o2 a (.load b [] c (.t d) 1 true) e false]
def zJj:List TO:=[o5 (.a (.c Ty6 [kV 0,kV 0,kV 0,kV 0,kV 0,kV 0,kV 0,.bool false,.slice none 0 0,.slice none 0 0,kV 0,kV 0,.slice none 0 0,kV 0])) 11 1000000012]
def zJk (a b c d e:Nat):List TO:=[⟨false,[a],[4000000000],.det 2 (.store b [] 0 .nil (.t c)),[d,e,8],none,none⟩]
def zJm (a b c d e f:Nat):List TO:=[o1 a (.load b [(c,d)] e (.t f) 1 false)]
def zJn (a b:Nat):List TO:=[⟨false,[],[a,b],.det 1 (.idx (.t 33)),[34],(some 34),none⟩]
def zJo (a b c d e f:Nat):List TO:=[⟨false,[],[a,b],.det 1 (.load c [] 1 (.t d) 2 true),[e],(some f),none⟩]
def zJp (a b c d e f g h i:Nat):List TO:=[⟨false,[a],[],.det 2 (.store b [] 1 (.t c) (.t d)),[e,f,g,h,i],none,none⟩]
def zJq (a b c d e:Nat):List TO:=[⟨false,[],[a,b],.det 1 (.load 8 [] 0 .nil c true),[d],(some e),none⟩]
def zJr (a b c d e f g h:Nat):List TO:=[⟨false,[a],[],.det 2 (.store b [] 0 .nil (.t c)),[d,e,f,g,h],none,none⟩]
def bR (a b c:Nat):List TO:=jy a++OE (a+1) b c a
def dz (a b c:Nat):List TO:=au a b++au (a+1) c
def nD (a b:Nat):List TO:=su a b++JC (a+1) a
def zJv (a b:Nat):List TO:=au a b++BZ (a+1) a
def kW (a b c d e:Nat):List TO:=xg a b c++zDC (a+1) b d a e
def nE (a b c d:Nat):List TO:=xg a b c++YI (a+1) b d a
def A_ (a b c d:Nat):List TO:=ry a b++B_ (a+1) c d a b
def tZ (a b c d:Nat):List TO:=zBn a b c++ru d a (a+1)
def yJ (a b c:Nat):List TO:=mr a b++gH (a+1) c a
def wh (a b c d e:Nat):List TO:=ry a b++B_ (a+1) c d a e
def Ba (a b c d e:Nat):List TO:=n_ a b++F9 (a+1) c d a e
def M5 (a b c d e:Nat):List TO:=zGv a b c++zGw a d e b (b+1) (b+1)
def ig (a b c:Nat):List TO:=zJv a b++au c (a+1)
def zKa (a b c d:Nat):List TO:=dK a b c++zDc b d (a+1) b
def Tv (a b:Nat):List TO:=jT a b++au (a+1) a
def lN (a b c:Nat):List TO:=pu a b c++au (c+1) c
def mV (a b:Nat):List TO:=BZ a b++au b a
def Bb (a b c:Nat):List TO:=nD a b++zGb (a+2) c (a+1)
def xu (a b c d e f:Nat):List TO:=iZ a b c++DZ a d a e a a f
def iV (a b c d:Nat):List TO:=jy a++OE (a+1) b c d
def OI (a b c:Nat):List TO:=xg a b c++JC (a+1) a
def JH (a b c d:Nat):List TO:=n_ a b++F9 (a+1) c d a b
def pF (a b c d:Nat):List TO:=iY a b c d++au (a+1) (b+1)
def M6 (a b c d e:Nat):List TO:=yG a b c d++dK c e c
def JI (a b c d e:Nat):List TO:=xg a b c++YI (a+1) d e a
def sw (a b:Nat):List TO:=mr a b++bO (a+1)
def D_ (a b c d:Nat):List TO:=tZ a b c d++au (a+2) (a+1)
def t_ (a b c d:Nat):List TO:=dK a b c++dK b d b
def nG (a b c d:Nat):List TO:=pu a b c++au d c
def uA (a b c:Nat):List TO:=jy a++zBs (a+1) b c a
def kX (a b:Nat):List TO:=dN a b++bB (a+1)
def Cb (a b c:Nat):List TO:=dz a b c++yJ (a+2) (a+1) a
def pG (a b c d e:Nat):List TO:=bR a b c++bR (a+2) d e
def yK (a b c d e:Nat):List TO:=dP a b c++jO (a+1) d e a
def yL (a b:Nat):List TO:=au a b++au (a+1) (b+1)
def Bc (a b c d:Nat):List TO:=dP a b c++gI (a+1) d a
def zKy (a b c d e f g h i:Nat):List TO:=zIg a b c d e f g++zIh a b f h f i
def zKz (a b c d e f g h i j m:Nat):List TO:=zKy a b c d e f g h i++zIy a b h j m (f+1) h (f+1)
def Ea (a b c d e:Nat):List TO:=zKa a b c d++xh (a+2) b e
def uB (a b c d e f:Nat):List TO:=au a b++wh (a+1) c d e f
def F_ (a b c d e f:Nat):List TO:=zDB a b c d e++ru f c (c+1)
def Ga (a b:Nat):List TO:=dD a++Bb (a+1) a b
def Tw (a b c d:Nat):List TO:=au a b++bR (a+1) c d
def Gb (a b c d e f:Nat):List TO:=xg a b c++zGi (a+1) d e f a
def Gc (a b c d:Nat):List TO:=jy a++JE (a+1) b c a d
def JJ (a b c d e:Nat):List TO:=zEh a b c d++ru e a (a+1)
def Tx (a b c d:Nat):List TO:=OI a b c++YI (a+2) b d (a+1)
def Ty (a b c d:Nat):List TO:=zKa a b c d++xh (a+2) b d
def JK (a b:Nat):List TO:=zJv a b++au b (a+1)
def Tz (a b c d:Nat):List TO:=dz a b c++nE (a+2) a (a+1) d
def TA (a b c:Nat):List TO:=dz a b c++gH (a+2) a (a+1)
def JL (a b c d e:Nat):List TO:=zGh a b++M6 c a (a+1) d e
def TB (a b c d e:Nat):List TO:=dz a b c++kW (a+2) a (a+1) d e
def yM (a b c:Nat):List TO:=dD a++dP (a+1) b c
def TD (a b c d e f g:Nat):List TO:=D8 a b c d++yH e f a (a+1) (a+1) g
def yN (a b:Nat)(c:Int)(d:Nat):List TO:=xm a b c++au d a
def zLo (a:Nat):List TO:=jy a++JC (a+1) a
def M7 (a b:Nat):List TO:=au a b++sw (a+1) a
def zLq (a b:Nat):List TO:=ry a b++JF (a+1) a b
def YN (a b c d:Nat):List TO:=zLq a b++B_ (a+2) c d (a+1) b
def OJ (a b c d e f:Nat):List TO:=xg a b c++zDC (a+1) d e a f
def xw (a b c:Nat):List TO:=au a b++mr (a+1) c
def Cc (a b c d:Nat):List TO:=au a b++iJ (a+1) c d
def OL (a b c d e:Nat):List TO:=Tw a b c d++yJ e (a+2) a
def OM (a b c d e f:Nat):List TO:=A_ a b c d++A_ (a+2) b e f
def OO (a b c d e f:Nat):List TO:=bR a b c++JI (a+2) d (a+1) e f
def zLy (a b c d e f:Nat):List TO:=zHy a b c d e f++zHz a d (c+1) d (c+1)
def zLz (a b c d e f g h:Nat):List TO:=zIi a b c d e f g++zIj a b c h (f+1) (f+1)
def zLA (a b c d e f g h i:Nat):List TO:=zLz a b c d e f g h++zIj a b c i (f+2) (f+2)
def zLB (a b c d:Nat):List TO:=JH a b c d++JG (a+2) (a+1) b
def Gd (a b c:Nat):List TO:=gp a b++au (a+1) c
def TF (a b c d:Nat):List TO:=nD a b++OE (a+2) c d (a+1)
def TG (a b:Nat):List TO:=zBa a++dK a b a
def TH (a b:Nat)(c:Int):List TO:=xm a b c++au (b+1) a
def Gf (a b c d:Nat):List TO:=bR a b c++au (a+2) d
def zMc (a b c d e f g:Nat):List TO:=jy a++zBu b c d e f a g
def YO (a b c d e f g h i j m:Nat):List TO:=zBt a b c d e f g h++zMc (d+1) i d a j m d
def zMe (a b c d e:Nat):List TO:=OI a b c++zBf (a+2) b d e (a+1)
def zMf (a b c d e f:Nat):List TO:=zIc a b c d++zId a b e f c (c+1) (c+1)
def Ce (a b c d:Nat):List TO:=iY a b c d++bB (a+1)
def zMh (a b c d e f:Nat):List TO:=M5 a b c d e++zGx a f (b+1) (b+2) (b+2)
def zMi (a b c d e f:Nat):List TO:=zLy a b c d e f++zHA a d (c+2) (c+2)
def zMj (a b c d:Nat):List TO:=zJa a b c d++zIa a c (c+1) (c+1)
def zMk (a b c d e f:Nat):List TO:=zMj a b c d++zJb a e (c+1) f (c+2) (c+2)
def YP (a b c d e:Nat):List TO:=jN a b c++zEf (a+1) d a e
def YQ (a b c:Nat):List TO:=zLo a++OE (a+2) b c (a+1)
def YR (a b c d:Nat):List TO:=gI a b c++dK a d a
def YS (a b:Nat)(c:Int)(d e f g h:Nat):List TO:=zBm a b c d e f++D_ (d+1) d g h
def JM (a b c d:Nat):List TO:=Tv a b++jN (a+2) c d
def zMr (a b c d e f:Nat):List TO:=zDv a b c++zDw d e a (a+1) (a+1) f
def YT (a b c:Nat):List TO:=bR a b c++mr (a+2) (a+1)
def M8 (a b c d e f:Nat):List TO:=au a b++Ba (a+1) c d e f
def M9 (a b c d e:Nat):List TO:=jy a++zAw b c d a e
def M_ (a b c:Nat):List TO:=au a b++au c a
def Na (a b c d e f:Nat):List TO:=Tv a b++Ba (a+2) c d e f
def zMx (a b c d e:Nat):List TO:=jO a b c d++dK a e a
abbrev Zt0:=Int × (Int × List Int × List (Int × Int) × List (List Int) × List Int × Int × Int × Int × Int × Int × Int × Int × List (Int × Int) × Int × List (Int × Int × Int × Int × Int × Int))
abbrev Zt1:=Int × List Int × List (Int × Int) × List (List Int) × List Int × Int × Int × Int × Int × Int × Int × Int × List (Int × Int) × Int × List (Int × Int × Int × Int × Int × Int) × Bool
abbrev Zt2:=Int × List Int × List (Int × Int) × List (List Int) × List Int × Int × Int × Int × Int × Int × Int × Int × List (Int × Int) × Int × List (Int × Int × Int × Int × Int × Int) × Int
abbrev eO:=Int × List Int × List (Int × Int) × List (List Int) × List Int × Int × Int × Int × Int × Int × Int × Int × List (Int × Int) × Int × List (Int × Int × Int × Int × Int × Int)
abbrev Zt4:=Int × Int × List (Int × Int × Int × Bool) × Int × Bool × List (Int × Int) × List Int × Int × Bool × List (Int × Int) × List Int × Int
abbrev Zt5:=Int × Int × List (Int × Int × Int × Int × Int × Int × Int × Bool × List (Int × Int) × List Int × Int × Int × List (Int × Int) × Int)
abbrev YU:=Int × Int × Int × Int × Int × Int × Int × Bool × (List (Int × Int)) × (List Int) × Int × Int × (List (Int × Int)) × Int
abbrev Zt7:=Int × Int × Int × Int × Int × Int × Int × Bool × List (Int × Int) × List Int × Int × Int × List (Int × Int) × Int
abbrev Zt8:=Int × Int × List (Int × Int × Int × Bool) × Int × Bool × List (Int × Int) × List Int × Bool
abbrev Zt9:=Int × Int × (List (Int × Int × Int × Bool)) × Int × Bool × (List (Int × Int)) × (List Int)
abbrev jU:=Int × Int × List (Int × Int × Int × Bool) × Int × Bool × List (Int × Int) × List Int
abbrev apH:=Int × Int × Int × Int × Int × Int × Int × List (Int × Int) × Int
abbrev aBQ:=Int × List (Int × Int × Int × Bool) × Int × Int × Bool × Bool
abbrev apI:=Int × List (Int × Int × Int × Bool) × Bool
abbrev oV:=Int × Bool × List (Int × Int) × List Int
abbrev eD:=Int × List (Int × Int × Int × Bool)
abbrev Eb:=Int × Int × List (Int × Int) × Int
abbrev vD:=Int × Int × Int × Int × Int × Int
abbrev l9:=Int × Int × Int × Bool
abbrev BH:=Int × List (Int × Int)
abbrev qP:=Int × Int × Int × Int
abbrev Ie:=Int × List (List Int)
abbrev aR:=Int × Int
abbrev zK (E:aL) (K:FuncId) (s:aM) (c:TC) (h:Nat) (j:Ou) (l:List Nat):Prop:=ahX PG E K s (c.ht h) j=some (c.wc E,l)
end Go.Fw
namespace Go.Fw
noncomputable section
def ati:TC:=
 (zS [bB 2] (zS [xw 3 0 3,YH 5 4 1048576,au 2 5] .ret))
def atj:aM:=⟨[.rd false fG],(.one false [.d])⟩
def atl:aL:=aG []
def atm (n:Nat):List (Int)->Option ((Bool) × Unit):=aI n atl ati [[.sl [.i .u8]]] [.b] [] [2] .no
def ah_:=atm BIG
def atn:TSp:=⟨atj,[[.sl [.i .u8]]],[.b],[],Ou.j .no,ah_⟩
theorem aBR:zK atl 7 atj ati 6 .no [2]:=by show _=_;kernel_rfl
theorem azJ:atn.Ok PG 7:=aQ (az PG) aBR (by kernel_rfl)
theorem aBS (n) (a0):atm n a0 = some (decide (1048576<(a0.length:Int)),()):=by kernel_rfl
def adY:TC:=
 (zS [[o1 2 (.nl)]] (zS [xw 5 0 5,zAe 7 13501 6,au 3 7] (zQ (.join [⟨3,[.i .i64],false⟩] 268435224 none (zS [bO 4] (.block 0 (.loop [⟨3,[.i .i64],false⟩,⟨4,[.i .i64],false⟩] 268435224 (zQ (.seq (.join [⟨15,[.b],false⟩] 65280 none (zR [dz 8 4 0,yJ 10 9 8,Cc 12 11 4 4,zAi 14 13 4000 4,pu 12 14 15])) (zC 15 .skip (.exit 0))) (zQ (.block 1 (zR [au 18 3,zAk 19 18 131,Tz 20 0 4 1,[o1 24 (.data (.conv .i64) [.t 23])],zAo 25 19 24,[o1 26 (.data (.bin .add) [.t 25,kD 7])],zAp 27 26 1073741823,au 3 27])) (zR [ig 16 4 4]))))))) (zS [dz 28 0 3,[o1 30 (.build gZ [(0,.t 28),(2,.t 29)])],dN 31 30,[⟨true,[],[],.det 2 (.copy 31),[2,31],(some 2),none⟩]] .ret))))
def adZ:aM:=⟨[.rd false fG],(.bx [.sl (.ro [0]) [.d],.d,.d])⟩
def ad1:aL:=aG []
def OP (n:Nat):List (Int)->Option ((List Int × Int × Int) × Unit):=aI n ad1 adY [[.sl [.i .u8]]] gZ [] [2] .no
def wm:=OP BIG
def Gg:TSp:=⟨adZ,[[.sl [.i .u8]]],gZ,[],Ou.j .no,wm⟩
theorem ato:zK ad1 37 adZ adY 32 .no [2]:=by show _=_;kernel_rfl
theorem KX:Gg.Ok PG 37:=aQ (az PG) ato (by kernel_rfl)
theorem atp (n) (a0):OP n a0 = (aK n (X:=Int × Int) (B:=Int) (fun self1 x0=> (bif decide (x0.2<(a0.length:Int)) then some (decide (x0.2<4000)) else some false).bind fun x2=> bif x2 then bnd a0.length x0.2 fun n3=> a0[n3]?.bind fun y4=> self1 (bits .and .i64 (IntKind.wrap .i64 ((IntKind.wrap .i64 ((IntKind.wrap .i64 (x0.1*(131:Int)))+(IntKind.wrap .i64 (y4))))+7)) (1073741823:Int),IntKind.wrap .i64 (x0.2+1)) else some x0.1) (IntKind.wrap .i64 ((13501:Int)+(a0.length:Int)),(0:Int))).bind fun x5=> some ((a0,(0:Int),x5),()):=by kernel_rfl
def YV:TC:=
 (zS [bO 2] (zS [dD 4,dD 5,su 6 5,JC 7 6,OE 8 0 2 7,zAk 9 8 6364136223846793005,[o1 10 (.data (.bin .add) [.t 9,kD 1442695040888963407])],nD 11 4,zAw 0 0 2 12 10] (zS [dD 13,dD 18,TF 14 13 0 2,zAx 17 16 33,TF 19 18 0 2,zAx 22 21 45,[o1 23 (.data (.bin .xor) [.t 17,.t 22])],zAp 24 23 255,au 3 24] (zQ (.join [⟨3,[.i .i64],false⟩,⟨0,gZ,false⟩] 144115188042301449 none (zS [dD 25,dD 29,TF 26 25 0 1,TF 30 29 0 0,yJ 33 32 28] (zC 34 (zS [au 35 3,dD 36,dD 40,TF 37 36 0 0,TF 41 40 0 1,nE 44 39 43 1,[o1 46 (.data (.conv .i64) [.t 45])],zAo 47 35 46,zAp 48 47 255,au 3 48] (zR [dD 49,dD 50,TF 51 50 0 1,BZ 54 53,nD 55 49,zAw 0 0 1 56 54])) .skip))) (zS [M_ 57 3 2] .ret)))))
def YW:aM:=⟨[.mp [.sl (.ro []) [.d],.d,.d]],(.one false [.d])⟩
def YX:aL:=aG []
def KY (n:Nat):(List Int × Int × Int)->Option ((Int) × List Int × Int × Int):=aI n YX YV [gZ] [.i .i64] gZ [2] (.mp 0)
def l_:=KY BIG
def KZ:TSp:=⟨YW,[gZ],[.i .i64],gZ,Ou.j (.mp 0),l_⟩
theorem apJ:zK YX 111 YW YV 58 (.mp 0) [2]:=by show _=_;kernel_rfl
theorem TI:KZ.Ok PG 111:=aQ (az PG) apJ (by kernel_rfl)
theorem apK (n) (a0):KY n a0 = bif decide (33<0) then none else bif decide (45<0) then none else (bif decide (a0.2.1<(a0.1.length:Int)) then bnd a0.1.length a0.2.1 fun n0=> a0.1[n0]?.bind fun y1=> some (bits .and .i64 (IntKind.wrap .i64 ((bits .and .i64 (bits .xor .i64 (Int.fdiv (IntKind.wrap .i64 ((IntKind.wrap .i64 (a0.2.2*(6364136223846793005:Int)))+1442695040888963407)) (2 ^ (Nat.min (Int.toNat (33:Int)) (IntKind.bits .i64)))) (Int.fdiv (IntKind.wrap .i64 ((IntKind.wrap .i64 (a0.2.2*(6364136223846793005:Int)))+1442695040888963407)) (2 ^ (Nat.min (Int.toNat (45:Int)) (IntKind.bits .i64))))) (255:Int))+(IntKind.wrap .i64 (y1)))) (255:Int),(a0.1,IntKind.wrap .i64 (a0.2.1+1),IntKind.wrap .i64 ((IntKind.wrap .i64 (a0.2.2*(6364136223846793005:Int)))+1442695040888963407))) else some (bits .and .i64 (bits .xor .i64 (Int.fdiv (IntKind.wrap .i64 ((IntKind.wrap .i64 (a0.2.2*(6364136223846793005:Int)))+1442695040888963407)) (2 ^ (Nat.min (Int.toNat (33:Int)) (IntKind.bits .i64)))) (Int.fdiv (IntKind.wrap .i64 ((IntKind.wrap .i64 (a0.2.2*(6364136223846793005:Int)))+1442695040888963407)) (2 ^ (Nat.min (Int.toNat (45:Int)) (IntKind.bits .i64))))) (255:Int),(a0.1,a0.2.1,IntKind.wrap .i64 ((IntKind.wrap .i64 (a0.2.2*(6364136223846793005:Int)))+1442695040888963407)))).bind fun x2=> some (x2.1,x2.2):=by kernel_rfl
def TJ:TC:=
 (zS [bO 4] (zQ (zS [au 9 1,zAy 10 9 0] (zC 10 (zS [bO 4] .ret) .skip)) (zQ (zS [au 11 1,zAy 12 11 256] (zC 12 (zS [dD 13,zAz 111 14 14,au 15 1,zAA 16 14 15,au 4 16] .ret) .skip)) (zS [dD 17,zAz 111 18 18,au 5 18] (zS [dD 19,zAz 111 20 20,au 6 20] (zS [dD 21,zAz 111 22 22,au 7 22] (zS [dD 23,zAz 111 24 24,au 8 24] (zS [au 25 5,zAk 26 25 16777216,au 27 6,zAk 28 27 65536,zAo 29 26 28,au 30 7,zAk 31 30 256,zAo 32 29 31,au 33 8,zAo 34 32 33,au 35 1,zAA 36 34 35,au 4 36] .ret))))))))
def TK:aM:=⟨[.mp [.sl (.ro []) [.d],.d,.d],.rd false [.d]],(.one false [.d])⟩
def TL:aL:=aG [(111,KZ)]
def Ig (n:Nat):(List Int × Int × Int) × Int->Option ((Int) × List Int × Int × Int):=aI n TL TJ [gZ,[.i .i64]] [.i .i64] gZ [4] (.mp 0)
def fH:=Ig BIG
def mD:TSp:=⟨TK,[gZ,[.i .i64]],[.i .i64],gZ,Ou.j (.mp 0),fH⟩
theorem ak_:zK TL 112 TK TJ 37 (.mp 0) [4]:=by show _=_;kernel_rfl
theorem mW:mD.Ok PG 112:=aQ (af TI (az PG)) ak_ (by kernel_rfl)
theorem ala (n) (a0) (a1):Ig n (a0,a1) = bif decide (a1<=0) then some ((0:Int),a0) else bif decide (a1<=256) then (l_ a0).bind fun r0=> bif decide (a1=0) then none else some (Int.tmod r0.1 a1,r0.2) else (l_ a0).bind fun r1=> (l_ r1.2).bind fun r2=> (l_ r2.2).bind fun r3=> (l_ r3.2).bind fun r4=> bif decide (a1=0) then none else some (Int.tmod (IntKind.wrap .i64 ((IntKind.wrap .i64 ((IntKind.wrap .i64 ((IntKind.wrap .i64 (r1.1*(16777216:Int)))+(IntKind.wrap .i64 (r2.1*(65536:Int)))))+(IntKind.wrap .i64 (r3.1*(256:Int)))))+r4.1)) a1,r4.2):=by kernel_rfl
def anw:TC:=
 (zS [bO 2] (zS [dD 3,zAB 0 11 4 0 4,zAe 5 2 4,au 2 5] .ret))
def anx:aM:=⟨[.mp [.sl (.ro []) [.d],.d,.d]],(.one false [.d])⟩
def anz:aL:=aG [(112,mD)]
def acu (n:Nat):(List Int × Int × Int)->Option ((Int) × List Int × Int × Int):=aI n anz anw [gZ] [.i .i64] gZ [2] (.mp 0)
def Sw:=acu BIG
def anA:TSp:=⟨anx,[gZ],[.i .i64],gZ,Ou.j (.mp 0),Sw⟩
theorem azK:zK anz 116 anx anw 6 (.mp 0) [2]:=by show _=_;kernel_rfl
theorem awm:anA.Ok PG 116:=aQ (af mW (az PG)) azK (by kernel_rfl)
theorem azL (n) (a0):acu n a0 = (fH (a0,(11:Int))).bind fun r0=> some (IntKind.wrap .i64 ((2:Int)+r0.1),r0.2):=by kernel_rfl
def aia:TC:=
 (zS [bB 6] (zQ (.join [⟨6,[.b],false⟩] 32704 none (zR [dz 7 0 1,zAC 9 7 8,Cc 10 9 0 3,iJ 12 2 3,zAD,nG 10 13 14 6])) .ret))
def aib:aM:=⟨[.rd false [.d],.rd false [.d],.rd false [.d]],(.one false [.d])⟩
def aic:aL:=aG []
def WR (n:Nat):Int × Int × Int->Option ((Bool) × Unit):=aI n aic aia [[.i .i64],[.i .i64],[.i .i64]] [.b] [] [6] .no
def bH:=WR BIG
def fI:TSp:=⟨aib,[[.i .i64],[.i .i64],[.i .i64]],[.b],[],Ou.j .no,bH⟩
theorem awn:zK aic 42 aib aia 15 .no [6]:=by show _=_;kernel_rfl
theorem eX:fI.Ok PG 42:=aQ (az PG) awn (by kernel_rfl)
theorem awo (n) (a0) (a1) (a2):WR n (a0,a1,a2) = (bif decide (a1<=a0) then some (decide (a0<=a2)) else some false).bind fun x0=> some (x0,()):=by kernel_rfl
def OQ:TC:=
 (zS [yF 4] (zS [TG 11 5] (zQ (.join [⟨5,[.sl [.i .i64]],false⟩] 2093152 none (zS [bO 6] (.block 0 (.loop [⟨5,[.sl [.i .i64]],false⟩,⟨6,[.i .i64],false⟩] 2093152 (zQ (zS [TA 12 6 0] (zC 14 .skip (.exit 0))) (zQ (.block 1 (zR [dK 5 17 5,au 18 6,JD 19 18,M6 17 19 20 17 5])) (zR [ig 15 6 6]))))))) (zQ (.join [⟨5,[.sl [.i .i64]],false⟩] 1180591620717409208224 none (zS [bO 7] (.block 2 (.loop [⟨5,[.sl [.i .i64]],false⟩,⟨7,[.i .i64],false⟩] 1180591620717409208224 (zQ (zS [TA 21 7 0] (zC 23 .skip (.exit 2))) (zQ (.join [⟨5,[.sl [.i .i64]],false⟩] 1180591620717344196384 none (.block 3 (zS [bO 8] (.block 4 (.loop [⟨5,[.sl [.i .i64]],false⟩,⟨8,[.i .i64],false⟩] 1180591620717344196384 (zQ (zS [Cb 26 8 1] (zC 29 .skip (.exit 4))) (zQ (.join [⟨5,[.sl [.i .i64]],false⟩] 1180591620713116337696 none (.block 5 (zS [gp 32 5,dz 33 1 8,Tx 35 33 34 2,JI 38 32 37 5 1,au 9 39] (zS [gp 40 5,dz 41 1 8,zMe 43 41 42 2 1,JI 46 40 45 5 1,au 10 47] (zQ (.join [⟨5,[.sl [.i .i64]],false⟩] 576180381133307936 none (zS [yL 48 9,gH 50 48 49] (zC 50 (zR [gp 51 5,dz 52 1 8,zMe 54 52 53 2 1,au 57 9,xg 58 51 56,[o4 1 [5,32,40,51] (.store 5 [(0,1)] 0 (.t 58) (.t 57))]]) .skip))) (zS [TA 59 10 9] (zC 61 (zR [gp 62 5,dz 63 1 8,Tx 65 63 64 2,au 68 10,xg 69 62 67,zBg 5 62 5 0 1 0 69 68]) .skip))))))) (zR [ig 30 8 8])))))))) (zR [ig 24 7 7]))))))) (zS [t_ 5 70 5 4] .ret)))))
def OT:aM:=⟨[.rd false [.d],.rd false iM],(.one false fG)⟩
def OU:aL:=aG []
def Ec (n:Nat):Int × (List aR)->Option ((List Int) × Unit):=aI n OU OQ [[.i .i64],[.sl [.i .i64,.i .i64]]] [.sl [.i .i64]] [] [4] .no
def xy:=Ec BIG
def Ee:TSp:=⟨OT,[[.i .i64],[.sl [.i .i64,.i .i64]]],[.sl [.i .i64]],[],Ou.j .no,xy⟩
theorem aid:zK OU 142 OT OQ 71 .no [4]:=by show _=_;kernel_rfl
theorem Nc:Ee.Ok PG 142:=aQ (az PG) aid (by kernel_rfl)
theorem aie (n) (a0) (a1):Ec n (a0,a1) = (aK n (X:=(List Int) × Int) (B:=(List Int)) (fun self1 x0=> bif decide (x0.2<a0) then bif decide (x0.1.length+[x0.2].length<=4294967296) then self1 (x0.1++[x0.2],IntKind.wrap .i64 (x0.2+1)) else none else some x0.1) ([],(0:Int))).bind fun x2=> (aK n (X:=(List Int) × Int) (B:=(List Int)) (fun self4 x3=> bif decide (x3.2<a0) then (aK n (X:=(List Int) × Int) (B:=(List Int)) (fun self6 x5=> bif decide (x5.2<(a1.length:Int)) then (bnd a1.length x5.2 fun n7=> a1[n7]?.bind fun y8=> bnd x5.1.length y8.1 fun n9=> x5.1[n9]?.bind fun y10=> bnd a1.length x5.2 fun n11=> a1[n11]?.bind fun y12=> bnd x5.1.length y12.2 fun n13=> x5.1[n13]?.bind fun y14=> (bif decide (y10<y14) then bnd a1.length x5.2 fun n15=> a1[n15]?.bind fun y16=> bnd x5.1.length y16.2 fun n17=> x5.1[n17]?.bind fun y18=> some (x5.1.set n17 y10) else some x5.1).bind fun x19=> bif decide (y14<y10) then bnd a1.length x5.2 fun n20=> a1[n20]?.bind fun y21=> bnd x19.length y21.1 fun n22=> x19[n22]?.bind fun y23=> some (x19.set n22 y14) else some x19:Option ((List Int))).bind fun x24=> self6 (x24,IntKind.wrap .i64 (x5.2+1)) else some x5.1) (x3.1,(0:Int))).bind fun x25=> self4 (x25,IntKind.wrap .i64 (x3.2+1)) else some x3.1) (x2,(0:Int))).bind fun x26=> some (x26,()):=by kernel_rfl
def YY:TC:=
 (zS [qi 4 1000000005,bB 5] (zQ (.seq (.join [⟨16,[.b],false⟩] 130560 none (zR [au 9 0,pz 10 42 9 12,JM 11 10 1 3,zBm 42 13 3 14 14 3,tZ 15 14 3 12])) (zC 16 (zS [zBp 17,Ce 4 17 4 17] .ret) .skip)) (zS [dz 18 0 1,[o1 20 (.make (.t 19) [.i .i64]),o5 (.build bE [(0,.t 18),(4,.t 20)]) 21 20],qi 6 1000000007,iY 6 21 6 21] (zQ (.join [⟨6,bE,false⟩] 68715282624 none (zS [bO 7] (.block 0 (.loop [⟨6,bE,false⟩,⟨7,[.i .i64],false⟩] 68715282624 (zQ (zS [TA 22 7 0] (zC 24 .skip (.exit 0))) (zQ (.block 1 (zR [dz 29 7 1,uA 27 6 1,zAA 31 29 30,zAe 32 1 31,JD 33 32,YO 28 28 33 34 28 28 6 34 6 6 1])) (zR [ig 25 7 7]))))))) (zQ (.join [⟨6,bE,false⟩] 562881233944896 none (zS [bO 8] (.block 2 (.loop [⟨6,bE,false⟩,⟨8,[.i .i64],false⟩] 562881233944896 (zQ (zS [TA 36 8 1] (zC 38 .skip (.exit 2))) (zQ (.block 3 (zR [au 43 0,uA 41 6 3,YJ 44,jO 45 142 43 44,zBx 45 46 45,zBy 42 42 46 47 42 46 42 6 47,zMc 48 6 47 42 6 3 47])) (zR [ig 39 8 8]))))))) (zS [xu 49 6 15 4 4 6,ic 5] .ret))))))
def YZ:aM:=⟨[.rd false [.d],.rd false [.d]],(.tup [(true,15),(false,1)] Ct0)⟩
def Y0:aL:=aG [(42,fI),(142,Ee)]
def CF (n:Nat):Int × Int->Option (Zt1 × Unit):=aI n Y0 YY [[.i .i64],[.i .i64]] Ty1 [] [4,5] .no
def tL:=CF BIG
def K3:TSp:=⟨YZ,[[.i .i64],[.i .i64]],Ty1,[],Ou.j .no,tL⟩
theorem apL:zK Y0 110 YZ YY 50 .no [4,5]:=by show _=_;kernel_rfl
theorem TM:K3.Ok PG 110:=aQ (af eX (af Nc (az PG))) apL (by kernel_rfl)
theorem Y1 (n) (a0) (a1):CF n (a0,a1) = ((bH (a0,(1:Int),(12:Int))).bind fun r0=> bif !r0.1 then some true else (bH (a1,(1:Int),(3:Int))).bind fun r1=> some !r1.1).bind fun x2=> bif x2 then some (((0:Int),[],[],[],[],(0:Int),(0:Int),(0:Int),(0:Int),(0:Int),(0:Int),(0:Int),[],(0:Int),[],false),()) else bif decide (0<=a1) then bif decide ((Int.toNat a1)<=4294967296) then (aK n (X:=eO × Int) (B:=eO) (fun self4 x3=> bif decide (x3.2<a0) then bif decide (a1=0) then none else bif decide (x3.1.2.1.length+([IntKind.wrap .i64 ((1:Int)+(Int.tmod x3.2 a1))]).length<=4294967296) then self4 ((x3.1.1,x3.1.2.1++([IntKind.wrap .i64 ((1:Int)+(Int.tmod x3.2 a1))]),x3.1.2.2),IntKind.wrap .i64 (x3.2+1)) else none else some x3.1) ((a0,[],[],[],List.replicate (Int.toNat a1) (0:Int),(0:Int),(0:Int),(0:Int),(0:Int),(0:Int),(0:Int),(0:Int),[],(0:Int),[]),(0:Int))).bind fun x5=> (aK n (X:=eO × Int) (B:=eO) (fun self7 x6=> bif decide (x6.2<a1) then (xy (a0,[])).bind fun r8=> bif decide (x6.1.2.2.2.1.length+[r8.1].length<=4294967296) then self7 ((x6.1.1,x6.1.2.1,x6.1.2.2.1,x6.1.2.2.2.1++[r8.1],x6.1.2.2.2.2),IntKind.wrap .i64 (x6.2+1)) else none else some x6.1) (x5,(0:Int))).bind fun x9=> some ((x9.1,x9.2.1,x9.2.2.1,x9.2.2.2.1,x9.2.2.2.2.1,x9.2.2.2.2.2.1,x9.2.2.2.2.2.2.1,x9.2.2.2.2.2.2.2.1,x9.2.2.2.2.2.2.2.2.1,x9.2.2.2.2.2.2.2.2.2.1,x9.2.2.2.2.2.2.2.2.2.2.1,x9.2.2.2.2.2.2.2.2.2.2.2.1,x9.2.2.2.2.2.2.2.2.2.2.2.2.1,x9.2.2.2.2.2.2.2.2.2.2.2.2.2.1,x9.2.2.2.2.2.2.2.2.2.2.2.2.2.2,true),()) else none else none:=by kernel_rfl
def ad2:TC:=
 (zS [D5 2 1000000003,bB 3] (zQ (zS [au 4 0,pz 5 42 4 12,jT 6 5] (zC 6 (zS [zBD 7,Ce 2 7 2 7] .ret) .skip)) (zS [au 8 0,zBE 9 8,iY 2 9 2 9,ic 3] .ret)))
def ad3:aM:=⟨[.rd false [.d]],(.tup [(true,2),(false,1)] Ct7)⟩
def ad4:aL:=aG [(42,fI)]
def OV (n:Nat):Int->Option (apI × Unit):=aI n ad4 ad2 [[.i .i64]] Oz [] [2,3] .no
def OW:=OV BIG
def ad5:TSp:=⟨ad3,[[.i .i64]],Oz,[],Ou.j .no,OW⟩
theorem atq:zK ad4 179 ad3 ad2 10 .no [2,3]:=by show _=_;kernel_rfl
theorem apM:ad5.Ok PG 179:=aQ (af eX (az PG)) atq (by kernel_rfl)
theorem atr (n) (a0):OV n a0 = (bH (a0,(1:Int),(12:Int))).bind fun r0=> bif !r0.1 then some (((0:Int),[],false),()) else some ((a0,[],true),()):=by kernel_rfl
def TN:TC:=
 (zS [D6 4 1000000005,bB 5] (zS [au 9 1,YR 10 179 9 8,zDc 8 2 11 8,xh 12 8 2,D5 6 1000000007,pF 6 11 6 11] (zQ (.seq (.join [⟨19,[.b],false⟩] 1040384 none (zR [au 13 7,JM 14 13 0 2,zBm 42 16 3 17 17 2,tZ 18 17 2 15])) (zC 19 (zS [zDe 20,Ce 4 20 4 20] .ret) .skip)) (zS [au 21 0,iZ 22 6 2,zDf,iY 4 23 4 23,ic 5] .ret))))
def TP:aM:=⟨[.rd false [.d],.rd false [.d]],(.tup [(true,7),(false,1)] Ct3)⟩
def TQ:aL:=aG [(179,ad5),(42,fI)]
def Ih (n:Nat):Int × Int->Option (Zt8 × Unit):=aI n TQ TN [[.i .i64],[.i .i64]] Ty8 [] [4,5] .no
def Ag:=Ih BIG
def Ii:TSp:=⟨TP,[[.i .i64],[.i .i64]],Ty8,[],Ou.j .no,Ag⟩
theorem alb:zK TQ 114 TP TN 24 .no [4,5]:=by show _=_;kernel_rfl
theorem OZ:Ii.Ok PG 114:=aQ (af apM (af eX (az PG))) alb (by kernel_rfl)
theorem alc (n) (a0) (a1):Ih n (a0,a1) = (OW a1).bind fun r0=> (bif !r0.1.2.2 then some true else (bH (a0,(1:Int),(3:Int))).bind fun r1=> some !r1.1).bind fun x2=> bif x2 then some (((0:Int),(0:Int),[],(0:Int),false,[],[],false),()) else some ((a0,r0.1.1,r0.1.2.1,(0:Int),false,[],[],true),()):=by kernel_rfl
def Y2:TC:=
 (zS [bO 2] (zS [xw 4 0 4,zDg 6 5 4,zAe 7 12 6,au 3 7] (zQ (zS [au 8 3,YH 9 8 60] (zC 9 (zS [nZ 2 60] .ret) .skip)) (zS [M_ 10 3 2] .ret))))
def Y3:aM:=⟨[.rd false fG],(.one false [.d])⟩
def Y4:aL:=aG []
def K4 (n:Nat):List (Int)->Option ((Int) × Unit):=aI n Y4 Y2 [[.sl [.i .u8]]] [.i .i64] [] [2] .no
def K5:=K4 BIG
def Y5:TSp:=⟨Y3,[[.sl [.i .u8]]],[.i .i64],[],Ou.j .no,K5⟩
theorem apN:zK Y4 117 Y3 Y2 11 .no [2]:=by show _=_;kernel_rfl
theorem ald:Y5.Ok PG 117:=aQ (az PG) apN (by kernel_rfl)
theorem apO (n) (a0):K4 n a0 = bif decide (4=0) then none else bif decide (60<(IntKind.wrap .i64 ((12:Int)+(IntKind.wrap .i64 (Int.tdiv (a0.length:Int) (4:Int)))))) then some ((60:Int),()) else some (IntKind.wrap .i64 ((12:Int)+(IntKind.wrap .i64 (Int.tdiv (a0.length:Int) (4:Int)))),()):=by kernel_rfl
def anB:TC:=
 (zS [kX 1 0] (zS [jy 3,JC 4 3,OE 5 1 9 4,zDi 6 5 0,au 2 6] .ret))
def anC:aM:=⟨[.rd true pq],(.one false [.d])⟩
def anD:aL:=aG []
def anE (n:Nat):eO->Option ((Bool) × Unit):=aI n anD anB [bE] [.b] [] [2] .no
def Dm:=anE BIG
def Sy:TSp:=⟨anC,[bE],[.b],[],Ou.j .no,Dm⟩
theorem azM:zK anD 39 anC anB 7 .no [2]:=by show _=_;kernel_rfl
theorem WS:Sy.Ok PG 39:=aQ (az PG) azM (by kernel_rfl)
theorem azN (n) (a0):anE n a0 = some (!decide (a0.2.2.2.2.2.2.2.2.2.1=0),()):=by kernel_rfl
def Nf:TC:=
 (zS [bO 4] (zS [au 5 1,dD 6,xw 7 1 7,Tp 112 8 9 9,JI 10 5 9 5 1,au 4 11] .ret))
def Ng:aM:=⟨[.mp [.sl (.ro []) [.d],.d,.d],.rd false fG],(.one false [.d])⟩
def Nh:aL:=aG [(112,mD)]
def BI (n:Nat):(List Int × Int × Int) × List (Int)->Option ((Int) × List Int × Int × Int):=aI n Nh Nf [gZ,[.sl [.i .i64]]] [.i .i64] gZ [4] (.mp 0)
def lJ:=BI BIG
def Ni:TSp:=⟨Ng,[gZ,[.sl [.i .i64]]],[.i .i64],gZ,Ou.j (.mp 0),lJ⟩
theorem afZ:zK Nh 125 Ng Nf 12 (.mp 0) [4]:=by show _=_;kernel_rfl
theorem acv:Ni.Ok PG 125:=aQ (af mW (az PG)) afZ (by kernel_rfl)
theorem af0 (n) (a0) (a1):BI n (a0,a1) = (fH (a0,(a1.length:Int))).bind fun r0=> bnd a1.length r0.1 fun n1=> a1[n1]?.bind fun y2=> some (y2,r0.2):=by kernel_rfl
def ad6:TC:=
 (zS [zDk 8 1000000009] (zS [au 10 3,dD 11,[⟨false,[],[],.det 10 (.sli [.i .i64] [kO 1,kO 1,kO 1,kO 1,kO 2,kO 2,kO 3,kO 3,kO 4]),[12,1000000001,1000000002,1000000003,1000000004,1000000005,1000000006,1000000007,1000000008,1000000009],(some 12),none⟩],Tp 125 12 13 13,dD 14,au 15 1,Tp 112 15 16 16,dD 17,au 18 1,Tp 112 18 19 19,[o1 20 (.build fV [(0,.t 10),(1,.t 13),(2,.t 16),(3,.t 19)])],zDk 9 1000000010,eB 9 9 20] (zQ (.join [⟨0,gZ,false⟩,⟨9,fV,false⟩] 534774273 none (zS [bR 21 9 1,xm 23 22 4] (zC 23 (zR [dD 24,au 25 2,Tp 112 25 26 26,zAe 27 1 26,M9 28 9 9 3 27]) .skip))) (zQ (.join [⟨0,gZ,false⟩,⟨9,fV,false⟩] 2251799276814849 none (zS [dD 29,zAB 0 30 30 0 30] (.block 0 (zS [TH 32 30 0] (zC 31 (zR [dD 33,au 34 1,[⟨false,[],[],.det 4 (.sli [.i .i64] [kO (-1),.t 34,kO 11,kO 12]),[35,1000000001,1000000003,1000000004],(some 35),none⟩],Tp 125 35 36 36,M9 37 9 9 2 36]) (zS [yN 39 30 1 38] (zC 38 (zR [dD 40,au 41 1,[⟨false,[],[],.det 4 (.sli [.i .i64] [kO (-1),kO 0,.t 41,kO 12]),[42,1000000001,1000000002,1000000004],(some 42),none⟩],Tp 125 42 43 43,M9 44 9 9 3 43]) (zS [yN 46 30 2 45] (zC 45 (zR [dD 47,[⟨false,[],[],.det 3 (.sli [.i .i64] [kO 0,kO 5]),[48,1000000001,1000000002],(some 48),none⟩],Tp 125 48 49 49,M9 50 9 9 1 49]) .skip))))))))) (zS [dP 51 9 4,eB 8 8 51] .ret)))))
def ad7:aM:=⟨[.mp [.sl (.ro []) [.d],.d,.d],.rd false [.d],.rd false [.d],.rd false [.d]],(.one true [.d,.d,.d,.d])⟩
def ad8:aL:=aG [(125,Ni),(112,mD)]
def O0 (n:Nat):(List Int × Int × Int) × Int × Int × Int->Option (qP × List Int × Int × Int):=aI n ad8 ad6 [gZ,[.i .i64],[.i .i64],[.i .i64]] fV gZ [8] (.mp 0)
def O1:=O0 BIG
def ad9:TSp:=⟨ad7,[gZ,[.i .i64],[.i .i64],[.i .i64]],fV,gZ,Ou.j (.mp 0),O1⟩
theorem att:zK ad8 41 ad7 ad6 52 (.mp 0) [8]:=by show _=_;kernel_rfl
theorem apP:ad9.Ok PG 41:=aQ (af acv (af mW (az PG))) att (by kernel_rfl)
theorem atu (n) (a0) (a1) (a2) (a3):O0 n (a0,a1,a2,a3) = (lJ (a0,[(1:Int),(1:Int),(1:Int),(1:Int),(2:Int),(2:Int),(3:Int),(3:Int),(4:Int)])).bind fun r0=> (fH (r0.2,a1)).bind fun r1=> (fH (r1.2,a1)).bind fun r2=> (bif decide (r0.1=4) then (fH (r2.2,a2)).bind fun r3=> some (r3.2,(a3,r0.1,r1.1,IntKind.wrap .i64 ((1:Int)+r3.1))) else some (r2.2,(a3,r0.1,r1.1,r2.1))).bind fun x4=> ((fH (x4.1,(30:Int))).bind fun r5=> bif decide (r5.1=0) then (lJ (r5.2,[(-1:Int),a1,(11:Int),(12:Int)])).bind fun r6=> some (r6.2,(x4.2.1,x4.2.2.1,r6.1,x4.2.2.2.2)) else bif decide (r5.1=1) then (lJ (r5.2,[(-1:Int),(0:Int),a1,(12:Int)])).bind fun r7=> some (r7.2,(x4.2.1,x4.2.2.1,x4.2.2.2.1,r7.1)) else bif decide (r5.1=2) then (lJ (r5.2,[(0:Int),(5:Int)])).bind fun r8=> some (r8.2,(x4.2.1,r8.1,x4.2.2.2)) else some (r5.2,x4.2)).bind fun x9=> some (x9.2,x9.1):=by kernel_rfl
def Gh:TC:=
 (zS [dN 1 0,zDp 2 1000000003] (zS [YJ 3,iV 4 1 2 4,yG 3 5 6 3,jy 7,F8 6 2 7 6] (zS [iZ 8 1 4,DZ 8 2 8 2 8 8 1] .ret)))
def Gi:aM:=⟨[.rd true OC],(.one true OC)⟩
def Gj:aL:=aG []
def xz (n:Nat):Eb->Option (Eb × Unit):=aI n Gj Gh [kH] kH [] [2] .no
def xA:=xz BIG
def Gl:TSp:=⟨Gi,[kH],kH,[],Ou.j .no,xA⟩
theorem Y6:zK Gj 138 Gi Gh 9 .no [2]:=by show _=_;kernel_rfl
theorem WU:Gl.Ok PG 138:=aQ (az PG) Y6 (by kernel_rfl)
theorem Y7 (n) (a0):xz n a0 = bif decide (0+a0.2.2.1.length<=4294967296) then some ((a0.1,a0.2.1,[]++a0.2.2.1,a0.2.2.2),()) else none:=by kernel_rfl
def Y8:TC:=
 (zS [dN 1 0,qi 2 1000000003] (zS [zBa 5,iV 6 1 1 6,yG 5 7 8 5,jy 9,F8 8 1 9 8] (zS [YJ 10,bR 11 1 2,yG 10 12 13 10,jy 14,F8 13 2 14 13] (zS [zBa 15,bR 16 1 4,yG 15 17 18 15,jy 19,F8 18 4 19 18] (zS [[o1 20 (.sli apD [])],bR 21 1 14,yG 20 22 23 20,jy 24,F8 23 14 24 23] (zS [[o1 25 (.sli [.sl [.i .i64]] [])],dK 25 3 25] (zQ (.join [⟨3,[.sl [.sl [.i .i64]]],false⟩] 8796025913368 none (zS [bO 4] (.block 0 (.loop [⟨3,[.sl [.sl [.i .i64]]],false⟩,⟨4,[.i .i64],false⟩] 8796025913368 (zQ (zS [OL 26 4 1 3 29] (zC 30 .skip (.exit 0))) (zQ (.block 1 (zR [dK 3 33 3,zBa 34,Gf 35 1 3 4,nE 38 36 37 1,yG 34 39 40 34,zBx 40 41 40,zDr 33 41 42 33 41 42,dK 42 3 42])) (zR [ig 31 4 4]))))))) (zS [dK 3 43 3,jy 44,F8 43 3 44 43] (zS [zLo 45,JE 47 1 10 46 4,gI 48 138 47,zLo 49,F8 48 10 50 48] (zS [xu 51 1 15 2 2 1] .ret))))))))))
def Y9:aM:=⟨[.rd true pq],(.one true pq)⟩
def Y_:aL:=aG [(138,Gl)]
def K6 (n:Nat):eO->Option (eO × Unit):=aI n Y_ Y8 [bE] bE [] [2] .no
def og:=K6 BIG
def CG:TSp:=⟨Y9,[bE],bE,[],Ou.j .no,og⟩
theorem apQ:zK Y_ 51 Y9 Y8 52 .no [2]:=by show _=_;kernel_rfl
theorem Ij:CG.Ok PG 51:=aQ (af WU (az PG)) apQ (by kernel_rfl)
theorem apR (n) (a0):K6 n a0 = bif decide (0+a0.2.1.length<=4294967296) then bif decide (0+a0.2.2.1.length<=4294967296) then bif decide (0+a0.2.2.2.2.1.length<=4294967296) then bif decide (0+a0.2.2.2.2.2.2.2.2.2.2.2.2.2.2.length<=4294967296) then (aK n (X:=(List (List Int)) × Int) (B:=(List (List Int))) (fun self1 x0=> bif decide (x0.2<(a0.2.2.2.1.length:Int)) then bnd a0.2.2.2.1.length x0.2 fun n2=> a0.2.2.2.1[n2]?.bind fun y3=> bif decide (0+y3.length<=4294967296) then bif decide (x0.1.length+([[]++y3]).length<=4294967296) then self1 (x0.1++([[]++y3]),IntKind.wrap .i64 (x0.2+1)) else none else none else some x0.1) ([],(0:Int))).bind fun x4=> (xA (a0.2.2.2.2.2.2.2.2.2.2.1,a0.2.2.2.2.2.2.2.2.2.2.2.1,a0.2.2.2.2.2.2.2.2.2.2.2.2.1,a0.2.2.2.2.2.2.2.2.2.2.2.2.2.1)).bind fun r5=> some ((a0.1,[]++a0.2.1,[]++a0.2.2.1,x4,[]++a0.2.2.2.2.1,a0.2.2.2.2.2.1,a0.2.2.2.2.2.2.1,a0.2.2.2.2.2.2.2.1,a0.2.2.2.2.2.2.2.2.1,a0.2.2.2.2.2.2.2.2.2.1,r5.1.1,r5.1.2.1,r5.1.2.2.1,r5.1.2.2.2,[]++a0.2.2.2.2.2.2.2.2.2.2.2.2.2.2),()) else none else none else none else none:=by kernel_rfl
def ad_:TC:=
 (zS [kX 3 1] (zQ (.join [⟨4,[.b],false⟩] 268435440 none (zR [au 5 0,pz 6 42 5 12,au 7 6,ry 8 2,B_ 9 3 0 8 2,iJ 10 0 2,zMr 11 10 2 42 9 2,lN 7 12 13,wh 15 9 3 1 9,iJ 17 0 9,zMr 18 17 9 42 16 9,lN 14 19 20,OM 22 16 3 0 3 1,zDx 26 23 25 16,nG 21 26 27 4])) .ret))
def aea:aM:=⟨[.rd false [.d],.rd true [.d,.d]],(.one false [.d])⟩
def aeb:aL:=aG [(42,fI)]
def O3 (n:Nat):Int × aR->Option ((Bool) × Unit):=aI n aeb ad_ [[.i .i64],[.i .i64,.i .i64]] [.b] [] [4] .no
def wu:=O3 BIG
def Bd:TSp:=⟨aea,[[.i .i64],[.i .i64,.i .i64]],[.b],[],Ou.j .no,wu⟩
theorem atv:zK aeb 128 aea ad_ 28 .no [4]:=by show _=_;kernel_rfl
theorem CJ:Bd.Ok PG 128:=aQ (af eX (az PG)) atv (by kernel_rfl)
theorem atw (n) (a0) (a1):O3 n (a0,a1) = ((bH (a0,(1:Int),(12:Int))).bind fun r0=> bif r0.1 then (bH (a1.1,(0:Int),IntKind.wrap .i64 (a0-1))).bind fun r1=> bif r1.1 then (bH (a1.2,(0:Int),IntKind.wrap .i64 (a0-1))).bind fun r2=> bif r2.1 then some (decide (a1.1<a1.2)) else some false else some false else some false).bind fun x3=> some (x3,()):=by kernel_rfl
def Za:TC:=
 (zS [dN 2 0,kX 3 1] (zQ (.join [⟨4,[.b],false⟩] 16777200 none (zR [iV 5 2 0 5,iV 7 3 0 7,gH 9 6 8,M8 10 9 5 2 0 5,Ba 13 5 3 0 5,zDA 15 12 14 5,jN 16 15 5,OM 17 11 2 1 3 1,zDx 21 18 20 11,F_ 16 21 22 22 5 10,au 4 23])) .ret))
def Zb:aM:=⟨[.rd true [.d,.d],.rd true [.d,.d]],(.one false [.d])⟩
def Zc:aL:=aG []
def K7 (n:Nat):aR × aR->Option ((Bool) × Unit):=aI n Zc Za [[.i .i64,.i .i64],[.i .i64,.i .i64]] [.b] [] [4] .no
def xB:=K7 BIG
def K8:TSp:=⟨Zb,[[.i .i64,.i .i64],[.i .i64,.i .i64]],[.b],[],Ou.j .no,xB⟩
theorem apS:zK Zc 187 Zb Za 24 .no [4]:=by show _=_;kernel_rfl
theorem TU:K8.Ok PG 187:=aQ (az PG) apS (by kernel_rfl)
theorem apT (n) (a0) (a1):K7 n (a0,a1) = (bif decide (a0.1<a1.1) then some true else bif decide (a0.1=a1.1) then some (decide (a0.2<a1.2)) else some false).bind fun x0=> some (x0,()):=by kernel_rfl
def TV:TC:=
 (zS [bB 4] (zQ (.join [] 68719476720 (some [⟨4,[.b],false⟩]) (zS [bO 5] (.block 0 (.loop [⟨5,[.i .i64],false⟩] 68719476720 (zQ (zS [dz 6 5 1,mr 8 7,gH 9 6 8] (zC 9 .skip (.exit 0))) (zQ (.join [] 68719472656 (some [⟨4,[.b],false⟩]) (.block 1 (zQ (.join [⟨35,[.b],false⟩] 68719472640 none (zR [dz 12 0 1,au 14 5,kW 15 13 14 2 2,jO 17 128 12 16,JM 18 17 5 7,zDD 21 20 0 7,jN 22 21 7,iJ 23 1 10,iJ 24 5 10,zDv 25 24 10,rA 26 23 25 10,zEa 27 23 2 26 2 10,iJ 28 1 10,iJ 29 5 10,rA 30 28 29 10,zEa 31 28 2 30 2 10,qj 187 27 31 32 32 10,zEc 33 32 10,F_ 22 33 34 34 7 19])) (zC 35 (zS [bB 4] .ret) .skip)))) (zR [ig 10 5 5]))))))) (zS [au 36 1,mr 37 36,zAy 38 37 66,au 4 38] .ret)))
def TW:aM:=⟨[.rd false [.d],.rd false iM],(.one false [.d])⟩
def TZ:aL:=aG [(128,Bd),(187,K8)]
def Ik (n:Nat):Int × (List aR)->Option ((Bool) × Unit):=aI n TZ TV [[.i .i64],[.sl [.i .i64,.i .i64]]] [.b] [] [4] .no
def qF:=Ik BIG
def uC:TSp:=⟨TW,[[.i .i64],[.sl [.i .i64,.i .i64]]],[.b],[],Ou.j .no,qF⟩
theorem ale:zK TZ 139 TW TV 39 .no [4]:=by show _=_;kernel_rfl
theorem xC:uC.Ok PG 139:=aQ (af CJ (af TU (az PG))) ale (by kernel_rfl)
theorem alf (n) (a0) (a1):Ik n (a0,a1) =
 (aK n (X:=Int) (B:=(Unit) ⊕ (Bool)) (fun self1 x0=>
  bif decide (x0<(a1.length:Int)) then
   ((bnd a1.length x0 fun n2=>
    a1[n2]?.bind fun y3=>
    (wu (a0,y3)).bind fun r4=>
    bif !r4.1 then
     some true
    else bif decide (0<x0) then
     bnd a1.length (IntKind.wrap .i64 (x0-1)) fun n5=>
     a1[n5]?.bind fun y6=>
     bnd a1.length x0 fun n7=>
     a1[n7]?.bind fun y8=>
     (xB (y6,y8)).bind fun r9=>
     some !r9.1
    else some false).bind fun x10=>
    bif x10 then
     some (Sum.inr false)
    else some (Sum.inl ())).bind fun y=>match y with
   | .inl x11=>
    self1 (IntKind.wrap .i64 (x0+1))
   | .inr x11=>
    some (Sum.inr x11)
  else some (Sum.inl ())) (0:Int)).bind fun y=>match y with
 | .inl x12=>
  some (decide ((a1.length:Int)<=66),())
 | .inr x12=>
  some (x12,()):=by kernel_rfl
def O4:TC:=
 (zS [bB 4] (zQ (zS [xw 6 1 6,au 8 0,xn 9 7 8] (zC 9 (zS [bB 4] .ret) .skip)) (zQ (.join [] 68719475760 (some [⟨4,[.b],false⟩]) (zS [bO 5] (.block 0 (.loop [⟨5,[.i .i64],false⟩] 68719475760 (zQ (zS [TA 10 5 0] (zC 12 .skip (.exit 0))) (zQ (.join [] 68719443984 (some [⟨4,[.b],false⟩]) (.block 1 (zQ (.join [⟨35,[.b],false⟩] 68719443968 none (zR [dz 15 1 5,au 19 5,nE 17 15 16 1,YK 20 42 18 19,JM 21 20 1 7,jN 24 1 7,YP 25 5 7 24 7,YL 27 24 1 26 7,zEf 28 23 27 7,YL 29 23 1 28 7,jN 30 1 7,YP 31 5 7 30 7,YL 33 30 1 32 7,JJ 34 29 33 7 22])) (zC 35 (zS [bB 4] .ret) .skip)))) (zR [ig 13 5 5]))))))) (zS [ic 4] .ret))))
def O5:aM:=⟨[.rd false [.d],.rd false fG],(.one false [.d])⟩
def O6:aL:=aG [(42,fI)]
def Ef (n:Nat):Int × List (Int)->Option ((Bool) × Unit):=aI n O6 O4 [[.i .i64],[.sl [.i .i64]]] [.b] [] [4] .no
def xD:=Ef BIG
def Eg:TSp:=⟨O5,[[.i .i64],[.sl [.i .i64]]],[.b],[],Ou.j .no,xD⟩
theorem aif:zK O6 140 O5 O4 36 .no [4]:=by show _=_;kernel_rfl
theorem Nj:Eg.Ok PG 140:=aQ (af eX (az PG)) aif (by kernel_rfl)
theorem aig (n) (a0) (a1):Ef n (a0,a1) =
 bif !decide ((a1.length:Int)=a0) then
  some (false,())
 else (aK n (X:=Int) (B:=(Unit) ⊕ (Bool)) (fun self1 x0=>
  bif decide (x0<a0) then
   ((bnd a1.length x0 fun n2=>
    a1[n2]?.bind fun y3=>
    (bH (y3,(0:Int),x0)).bind fun r4=>
    bif !r4.1 then
     some true
    else bnd a1.length x0 fun n5=>
    a1[n5]?.bind fun y6=>
    bnd a1.length y6 fun n7=>
    a1[n7]?.bind fun y8=>
    bnd a1.length x0 fun n9=>
    a1[n9]?.bind fun y10=>
    some (!decide (y8=y10))).bind fun x11=>
    bif x11 then
     some (Sum.inr false)
    else some (Sum.inl ())).bind fun y=>match y with
   | .inl x12=>
    self1 (IntKind.wrap .i64 (x0+1))
   | .inr x12=>
    some (Sum.inr x12)
  else some (Sum.inl ())) (0:Int)).bind fun y=>match y with
 | .inl x13=>
  some (true,())
 | .inr x13=>
  some (x13,()):=by kernel_rfl
def Zd:TC:=
 (zS [dN 2 0,bO 4] (zQ (.join [] 4194288 (some [⟨4,[.i .i64],false⟩]) (zS [bO 5] (.block 0 (.loop [⟨5,[.i .i64],false⟩] 4194288 (zQ (zS [au 6 5,iV 7 2 14 7,mr 9 8,gH 10 6 9] (zC 10 .skip (.exit 0))) (zQ (.block 1 (zS [jy 13,OE 14 2 14 13,au 15 5,Tx 16 14 15 6,au 19 1,pE 20 18 19] (zC 20 (zS [M_ 21 5 4] .ret) .skip))) (zR [ig 11 5 5]))))))) (zS [zEj 4] .ret)))
def Ze:aM:=⟨[.rd true pq,.rd false [.d]],(.one false [.d])⟩
def Zf:aL:=aG []
def K9 (n:Nat):eO × Int->Option ((Int) × Unit):=aI n Zf Zd [bE,[.i .i64]] [.i .i64] [] [4] .no
def xE:=K9 BIG
def CK:TSp:=⟨Ze,[bE,[.i .i64]],[.i .i64],[],Ou.j .no,xE⟩
theorem apU:zK Zf 53 Ze Zd 22 .no [4]:=by show _=_;kernel_rfl
theorem Il:CK.Ok PG 53:=aQ (az PG) apU (by kernel_rfl)
theorem apV (n) (a0) (a1):K9 n (a0,a1) = (aK n (X:=Int) (B:=(Unit) ⊕ (Int)) (fun self1 x0=> bif decide (x0<(a0.2.2.2.2.2.2.2.2.2.2.2.2.2.2.length:Int)) then bnd a0.2.2.2.2.2.2.2.2.2.2.2.2.2.2.length x0 fun n2=> a0.2.2.2.2.2.2.2.2.2.2.2.2.2.2[n2]?.bind fun y3=> bif decide (y3.1=a1) then some (Sum.inr x0) else self1 (IntKind.wrap .i64 (x0+1)) else some (Sum.inl ())) (0:Int)).bind fun y=>match y with | .inl x4=> some ((-1:Int),()) | .inr x4=> some (x4,()):=by kernel_rfl
def Gm:TC:=
 (zS [bB 4] (zQ (zS [xw 6 0 6,xw 8 1 8,xn 10 7 9] (zC 10 (zS [bB 4] .ret) .skip)) (zQ (.join [] 67106864 (some [⟨4,[.b],false⟩]) (zS [bO 5] (.block 0 (.loop [⟨5,[.i .i64],false⟩] 67106864 (zQ (zS [Cb 11 5 0] (zC 14 .skip (.exit 0))) (zQ (.block 1 (zS [dz 17 0 5,dz 21 1 5,kW 19 17 18 2 2,kW 23 21 22 2 2,zEk 25 20 24] (zC 25 (zS [bB 4] .ret) .skip))) (zR [ig 15 5 5]))))))) (zS [ic 4] .ret))))
def Gn:aM:=⟨[.rd false iM,.rd false iM],(.one false [.d])⟩
def Gp:aL:=aG []
def xF (n:Nat):(List aR) × (List aR)->Option ((Bool) × Unit):=aI n Gp Gm [[.sl [.i .i64,.i .i64]],[.sl [.i .i64,.i .i64]]] [.b] [] [4] .no
def rD:=xF BIG
def xG:TSp:=⟨Gn,[[.sl [.i .i64,.i .i64]],[.sl [.i .i64,.i .i64]]],[.b],[],Ou.j .no,rD⟩
theorem Zg:zK Gp 202 Gn Gm 26 .no [4]:=by show _=_;kernel_rfl
theorem Eh:xG.Ok PG 202:=aQ (az PG) Zg (by kernel_rfl)
theorem Zh (n) (a0) (a1):xF n (a0,a1) = bif !decide ((a0.length:Int)=(a1.length:Int)) then some (false,()) else (aK n (X:=Int) (B:=(Unit) ⊕ (Bool)) (fun self1 x0=> bif decide (x0<(a0.length:Int)) then bnd a0.length x0 fun n2=> a0[n2]?.bind fun y3=> bnd a1.length x0 fun n4=> a1[n4]?.bind fun y5=> bif !(decide (y3.1=y5.1)&&(decide (y3.2=y5.2)&&true)) then some (Sum.inr false) else self1 (IntKind.wrap .i64 (x0+1)) else some (Sum.inl ())) (0:Int)).bind fun y=>match y with | .inl x6=> some (true,()) | .inr x6=> some (x6,()):=by kernel_rfl
def Gq:TC:=
 (zS [dN 2 0,kX 3 1] (zQ (.join [⟨4,[.b],false⟩] 2147483632 none (zR [iV 5 2 0 5,iV 7 3 0 7,pE 9 6 8,uB 10 9 5 2 1 5,wh 13 5 3 1 5,D7 15 12 14 5,lN 10 15 16,OM 18 12 2 3 3 3,D7 22 19 21 12,lN 17 22 23,OM 25 19 2 2 3 2,qj 202 26 28 29 29 19,nG 24 29 30 4])) .ret))
def Gr:aM:=⟨[.rd true OC,.rd true OC],(.one false [.d])⟩
def Gs:aL:=aG [(202,xG)]
def xH (n:Nat):Eb × Eb->Option ((Bool) × Unit):=aI n Gs Gq [kH,kH] [.b] [] [4] .no
def rE:=xH BIG
def Gt:TSp:=⟨Gr,[kH,kH],[.b],[],Ou.j .no,rE⟩
theorem Zi:zK Gs 170 Gr Gq 31 .no [4]:=by show _=_;kernel_rfl
theorem WV:Gt.Ok PG 170:=aQ (af Eh (az PG)) Zi (by kernel_rfl)
theorem Zj (n) (a0) (a1):xH n (a0,a1) = (bif decide (a0.1=a1.1) then bif decide (a0.2.1=a1.2.1) then bif decide (a0.2.2.2=a1.2.2.2) then (rD (a0.2.2.1,a1.2.2.1)).bind fun r0=> some r0.1 else some false else some false else some false).bind fun x1=> some (x1,()):=by kernel_rfl
def Gu:TC:=
 (zS [kX 1 0] (zQ (.join [⟨2,[.b],false⟩] 262140 none (zR [jy 3,JE 4 1 0 3 4,[o1 5 (.build fV [])],zEn 6 4 5,au 7 6,ry 8 4,B_ 9 1 4 8 4,OG 10 9 4,lN 7 10 11,ry 13 9,zEp 14 1 5 13 4 9,[o2 15 (.build kH []) 9 true],qj 170 14 15 16 16 9,nG 12 16 17 2])) .ret))
def Gv:aM:=⟨[.rd true Ct6],(.one false [.d])⟩
def Gw:aL:=aG [(170,Gt)]
def xI (n:Nat):apH->Option ((Bool) × Unit):=aI n Gw Gu [DY] [.b] [] [2] .no
def xJ:=xI BIG
def Gx:TSp:=⟨Gv,[DY],[.b],[],Ou.j .no,xJ⟩
theorem Zk:zK Gw 191 Gv Gu 18 .no [2]:=by show _=_;kernel_rfl
theorem WW:Gx.Ok PG 191:=aQ (af WV (az PG)) Zk (by kernel_rfl)
theorem Zl (n) (a0):xI n a0 = (bif (decide (a0.1=0)&&(decide (a0.2.1=0)&&(decide (a0.2.2.1=0)&&(decide (a0.2.2.2.1=0)&&true)))) then bif decide (a0.2.2.2.2.1=0) then (rE (a0.2.2.2.2.2,((0:Int),(0:Int),[],(0:Int)))).bind fun r0=> some r0.1 else some false else some false).bind fun x1=> some (x1,()):=by kernel_rfl
def Zm:TC:=
 (zS [kX 3 1] (zQ (.seq (.join [⟨26,[.b],false⟩] 134217696 none (zR [au 5 0,pz 6 42 5 12,jT 7 6,au 8 7,n_ 9 3,F9 10 3 0 9 3,YS 42 10 100000 11 11 3 3 8,Ba 15 9 3 1 9,YS 42 16 4 17 17 9 9 14,jN 21 0 15,JH 22 15 3 2,yH 139 21 23 24 24 15,tZ 25 24 15 20])) (zC 26 (zS [bB 4] .ret) .skip)) (zQ (zS [bR 27 3 1] (.block 0 (zS [TH 30 28 3] (zC 29 (zQ (.join [⟨4,[.b],false⟩] 4395899027472 none (zR [YT 31 3 2,xm 34 33 0,uB 35 34 4 3 3 4,iJ 38 0 4,zMr 39 38 4 42 37 4,nG 35 40 41 4])) .ret) (zS [yN 43 28 4 42] (zC 42 (zQ (.join [⟨4,[.b],false⟩] 8989607068696592 none (zR [YT 44 3 2,YH 47 46 0,uB 48 47 4 3 3 4,OG 51 50 4,nG 48 51 52 4])) .ret) .skip)))))) (zQ (.join [⟨4,[.b],false⟩] 4602678819172646928 none (zR [YT 53 3 2,xm 56 55 1,uB 57 56 4 3 3 4,OG 60 59 4,nG 57 60 61 4])) .ret))))
def Zn:aM:=⟨[.rd false [.d],.rd true OC],(.one false [.d])⟩
def Zo:aL:=aG [(42,fI),(139,uC)]
def K_ (n:Nat):Int × Eb->Option ((Bool) × Unit):=aI n Zo Zm [[.i .i64],kH] [.b] [] [4] .no
def CL:=K_ BIG
def La:TSp:=⟨Zn,[[.i .i64],kH],[.b],[],Ou.j .no,CL⟩
theorem apW:zK Zo 119 Zn Zm 62 .no [4]:=by show _=_;kernel_rfl
theorem T9:La.Ok PG 119:=aQ (af eX (af xC (az PG))) apW (by kernel_rfl)
theorem apX (n) (a0) (a1):K_ n (a0,a1) = ((bH (a0,(1:Int),(12:Int))).bind fun r0=> bif !r0.1 then some true else (bH (a1.1,(1:Int),(100000:Int))).bind fun r1=> bif !r1.1 then some true else (bH (a1.2.1,(1:Int),(4:Int))).bind fun r2=> bif !r2.1 then some true else (qF (a0,a1.2.2.1)).bind fun r3=> some !r3.1).bind fun x4=> bif x4 then some (false,()) else bif decide (a1.2.1=3) then (bif decide ((a1.2.2.1.length:Int)=0) then (bH (a1.2.2.2,(0:Int),IntKind.wrap .i64 (a0-1))).bind fun r5=> some r5.1 else some false).bind fun x6=> some (x6,()) else bif decide (a1.2.1=4) then (bif decide (0<(a1.2.2.1.length:Int)) then some (decide (a1.2.2.2=0)) else some false).bind fun x7=> some (x7,()) else (bif decide ((a1.2.2.1.length:Int)=1) then some (decide (a1.2.2.2=0)) else some false).bind fun x8=> some (x8,()):=by kernel_rfl
def T_:TC:=
 (zS [dN 2 0,kX 3 1] (zQ (.seq (.join [⟨17,[.b],false⟩] 262112 none (zR [iV 5 3 1 5,pz 7 42 6 4,jT 8 7,M8 9 8 4 3 2 4,Ba 12 4 2 0 4,zEr 14 13 4,zEs 42 11 0 14 15 15 4,tZ 16 15 4 9])) (zC 17 (zS [bB 4] .ret) .skip)) (zQ (zS [bR 18 3 1] (.block 0 (zS [TH 21 19 4] (zC 20 (zS [pG 22 3 3 2 3,mr 26 25,zEt 27 42 23 1 26,au 4 27] .ret) (zS [yN 29 19 3 28] (zC 28 (zS [pG 30 3 3 2 0,yI 34 33,YK 35 42 31 34,au 4 35] .ret) .skip)))))) (zQ (.join [⟨4,[.b],false⟩] 562881233944592 none (zR [pG 36 3 3 2 0,yI 40 39,YK 41 42 37 40,uB 42 41 6 3 2 6,wh 45 6 3 3 6,zEv 47 44 46 6,nG 42 47 48 4])) .ret))))
def Ua:aM:=⟨[.rd true pq,.rd true [.d,.d,.d,.d]],(.one false [.d])⟩
def Ub:aL:=aG [(42,fI)]
def Im (n:Nat):eO × qP->Option ((Bool) × Unit):=aI n Ub T_ [bE,fV] [.b] [] [4] .no
def Ah:=Im BIG
def Io:TSp:=⟨Ua,[bE,fV],[.b],[],Ou.j .no,Ah⟩
theorem alg:zK Ub 54 Ua T_ 49 .no [4]:=by show _=_;kernel_rfl
theorem O7:Io.Ok PG 54:=aQ (af eX (az PG)) alg (by kernel_rfl)
theorem alh (n) (a0) (a1):Im n (a0,a1) = ((bH (a1.2.1,(1:Int),(4:Int))).bind fun r0=> bif !r0.1 then some true else (bH (a1.2.2.1,(0:Int),IntKind.wrap .i64 (a0.1-1))).bind fun r1=> some !r1.1).bind fun x2=> bif x2 then some (false,()) else bif decide (a1.2.1=4) then (bH (a1.2.2.2,(1:Int),(a0.2.2.2.1.length:Int))).bind fun r3=> some (r3.1,()) else bif decide (a1.2.1=3) then (bH (a1.2.2.2,(0:Int),IntKind.wrap .i64 (a0.1-1))).bind fun r4=> some (r4.1,()) else ((bH (a1.2.2.2,(0:Int),IntKind.wrap .i64 (a0.1-1))).bind fun r5=> bif r5.1 then some (!decide (a1.2.2.1=a1.2.2.2)) else some false).bind fun x6=> some (x6,()):=by kernel_rfl
def O8:TC:=
 (zS [kX 1 0] (zS [jy 4,JE 5 1 5 4 9,zEw 3 1000000004,eB 3 3 5] (zQ (zS [dP 6 3 9,gI 7 191 6] (zC 7 (zS [ic 2] .ret) .skip)) (zQ (.join [⟨2,[.b],false⟩] 2305843009213693700 none (zR [iV 8 3 4 8,YT 10 1 3,zEt 13 42 9 1 12,uB 14 13 6 1 0 6,ry 17 6,zEp 18 3 5 17 4 6,qj 119 16 18 19 19 6,lN 14 19 20,YN 22 13 3 5,OM 25 13 1 4 3 4,zDv 29 28 13,rA 30 26 29 13,Ca 31 26 1 30 13,zEz 32 31 13,D7 33 24 32 13,lN 21 33 34,zEA 36 1 15 27,YN 37 27 3 0,qj 53 36 39 40 40 27,zAi 41 40 0 27,lN 35 41 42,zEA 44 1 15 35,ry 45 35,zEp 46 3 0 45 4 35,qj 54 44 46 47 47 35,lN 43 47 48,YN 50 41 3 1,[o2 53 (.data (.bin .neq) [.t 52,kD 3]) 41 true],lN 49 53 54,YN 56 47 3 0,zEB 42 58 59 59 47,nG 55 59 60 2])) .ret))))
def O9:aM:=⟨[.rd true pq],(.one false [.d])⟩
def O_:aL:=aG [(191,Gx),(42,fI),(119,La),(53,CK),(54,Io)]
def Ei (n:Nat):eO->Option ((Bool) × Unit):=aI n O_ O8 [bE] [.b] [] [2] .no
def Ej:=Ei BIG
def Pb:TSp:=⟨O9,[bE],[.b],[],Ou.j .no,Ej⟩
theorem aih:zK O_ 141 O9 O8 61 .no [2]:=by show _=_;kernel_rfl
theorem af1:Pb.Ok PG 141:=aQ (af WW (af eX (af T9 (af Il (af O7 (az PG)))))) aih (by kernel_rfl)
theorem aii (n) (a0):Ei n a0 = (xJ (a0.2.2.2.2.2.1,a0.2.2.2.2.2.2.1,a0.2.2.2.2.2.2.2.1,a0.2.2.2.2.2.2.2.2.1,a0.2.2.2.2.2.2.2.2.2.1,a0.2.2.2.2.2.2.2.2.2.2.1,a0.2.2.2.2.2.2.2.2.2.2.2.1,a0.2.2.2.2.2.2.2.2.2.2.2.2.1,a0.2.2.2.2.2.2.2.2.2.2.2.2.2.1)).bind fun r0=> bif r0.1 then some (true,()) else ((bH (a0.2.2.2.2.2.2.2.2.2.1,(1:Int),(a0.2.2.2.1.length:Int))).bind fun r1=> bif r1.1 then (CL (a0.1,(a0.2.2.2.2.2.2.2.2.2.2.1,a0.2.2.2.2.2.2.2.2.2.2.2.1,a0.2.2.2.2.2.2.2.2.2.2.2.2.1,a0.2.2.2.2.2.2.2.2.2.2.2.2.2.1))).bind fun r2=> bif r2.1 then bnd a0.2.2.2.2.1.length (IntKind.wrap .i64 (a0.2.2.2.2.2.2.2.2.2.1-1)) fun n3=> a0.2.2.2.2.1[n3]?.bind fun y4=> bif decide (a0.2.2.2.2.2.2.2.2.2.2.1=(IntKind.wrap .i64 (y4+1))) then (xE (a0,a0.2.2.2.2.2.1)).bind fun r5=> bif decide (r5.1<0) then (Ah (a0,(a0.2.2.2.2.2.1,a0.2.2.2.2.2.2.1,a0.2.2.2.2.2.2.2.1,a0.2.2.2.2.2.2.2.2.1))).bind fun r6=> bif r6.1 then bif !decide (a0.2.2.2.2.2.2.1=3) then (bH (a0.2.2.2.2.2.1,(1:Int),(100000:Int))).bind fun r7=> some r7.1 else some false else some false else some false else some false else some false else some false).bind fun x8=> some (x8,()):=by kernel_rfl
def aec:TC:=
 (zS [kX 1 0] (zQ (.seq (.join [⟨49,[.b],false⟩] 1125899906842368 none (zR [iV 8 1 0 8,pz 10 42 9 12,Na 11 10 4 1 3 4,JG 15 14 4,YS 42 15 3 16 16 4 4 12,zLB 20 11 1 4,zLB 23 11 1 3,JJ 26 22 25 11 19,au 28 27,zLB 29 20 1 1,JH 32 20 1 0,JJ 34 31 33 20 28,au 36 35,JH 37 28 1 0,JH 39 28 1 2,yH 139 38 40 41 41 28,D_ 42 41 28 36,zLB 45 36 1 14,zDD 48 47 80 36,ru 44 48 49])) (zC 49 (zS [bB 2] .ret) .skip)) (zQ (.join [] 37778930737057254866956 (some [⟨2,[.b],false⟩]) (zS [bO 3] (.block 0 (.loop [⟨3,[.i .i64],false⟩] 37778930737057254866956 (zQ (zS [OL 50 3 1 3 53] (zC 54 .skip (.exit 0))) (zQ (.join [] 37778787747769085853700 (some [⟨2,[.b],false⟩]) (.block 1 (zQ (.join [⟨74,[.b],false⟩] 37778787747769085853696 none (zR [au 61 3,pG 57 1 0 1 3,nE 62 60 61 1,jO 64 140 58 63,Na 65 64 9 1 4 9,YP 69 3 9 68 9,YL 71 68 1 70 9,zED 42 71 0 99991 72 72 9,tZ 73 72 9 66])) (zC 74 (zS [bB 2] .ret) .skip)))) (zR [ig 55 3 3]))))))) (zQ (.join [] 2475842299638897592636538900 (some [⟨2,[.b],false⟩]) (zS [bO 4] (.block 2 (.loop [⟨4,[.i .i64],false⟩] 2475842299638897592636538900 (zQ (zS [Tw 75 4 1 0,gH 78 75 77] (zC 78 .skip (.exit 2))) (zQ (.block 3 (zS [au 83 4,bR 81 1 1,nE 84 82 83 1,YT 86 1 3,zEt 89 42 85 1 88,jT 90 89] (zC 90 (zS [bB 2] .ret) .skip))) (zR [ig 79 4 4]))))))) (zQ (.join [] 664613995416577857881142980341923876 (some [⟨2,[.b],false⟩]) (zS [bO 5] (.block 4 (.loop [⟨5,[.i .i64],false⟩] 664613995416577857881142980341923876 (zQ (zS [OL 91 5 1 2 94] (zC 95 .skip (.exit 4))) (zQ (.block 5 (zS [au 102 5,au 112 5,pG 98 1 1 1 2,Tx 103 101 102 2,nE 106 99 105 1,pG 108 1 1 1 2,zMe 113 111 112 2 1,nE 116 109 115 1,pE 118 107 117] (zC 118 (zS [bB 2] .ret) .skip))) (zR [ig 96 5 5]))))))) (zQ (.join [] 2854495384747305764224114002447086742625321156 (some [⟨2,[.b],false⟩]) (zS [bO 6] (.block 6 (.loop [⟨6,[.i .i64],false⟩] 2854495384747305764224114002447086742625321156 (zQ (zS [OL 119 6 1 14 122] (zC 123 .skip (.exit 6))) (zQ (.join [] 2854495300341328031881956073055338414823440516 (some [⟨2,[.b],false⟩]) (.block 7 (zS [Gf 126 1 14 6,kW 129 127 128 6 6,zEE 7 1000000008,eB 7 7 130] (zQ (.join [⟨150,[.b],false⟩] 2854492663152984394608864231902130818619801600 none (zR [bR 131 7 0,YQ 133 7 1,xn 136 132 135,M8 137 136 6 7 5 6,YS 42 139 3 140 140 6 6 137,D8 144 1 15 12,JH 145 12 7 0,yH 53 144 146 147 147 12,jN 148 6 12,JJ 149 147 148 12 143])) (zC 150 (zS [bB 2] .ret) .skip))))) (zR [ig 124 6 6]))))))) (zS [Bc 151 1 15 141,au 2 152] .ret)))))))
def aed:aM:=⟨[.rd true pq],(.one false [.d])⟩
def aee:aL:=aG [(42,fI),(139,uC),(140,Eg),(53,CK),(141,Pb)]
def Pd (n:Nat):eO->Option ((Bool) × Unit):=aI n aee aec [bE] [.b] [] [2] .no
def Be:=Pd BIG
def Pe:TSp:=⟨aed,[bE],[.b],[],Ou.j .no,Be⟩
theorem atx:zK aee 52 aed aec 153 .no [2]:=by show _=_;kernel_rfl
theorem Zp:Pe.Ok PG 52:=aQ (af eX (af xC (af Nj (af Il (af af1 (az PG)))))) atx (by kernel_rfl)
theorem aty (n) (a0):Pd n a0 =
 ((bH (a0.1,(1:Int),(12:Int))).bind fun r0=>
  bif !r0.1 then
   some true
  else (bH ((a0.2.2.2.1.length:Int),(1:Int),(3:Int))).bind fun r1=>
  bif !r1.1 then
   some true
  else bif !decide ((a0.2.2.2.2.1.length:Int)=(a0.2.2.2.1.length:Int)) then
   some true
  else bif !decide ((a0.2.1.length:Int)=a0.1) then
   some true
  else (qF (a0.1,a0.2.2.1)).bind fun r2=>
  bif !r2.1 then
   some true
  else some (decide (80<(a0.2.2.2.2.2.2.2.2.2.2.2.2.2.2.length:Int)))).bind fun x3=>
 bif x3 then
  some (false,())
 else (aK n (X:=Int) (B:=(Unit) ⊕ (Bool)) (fun self5 x4=>
  bif decide (x4<(a0.2.2.2.1.length:Int)) then
   ((bnd a0.2.2.2.1.length x4 fun n6=>
    a0.2.2.2.1[n6]?.bind fun y7=>
    (xD (a0.1,y7)).bind fun r8=>
    bif !r8.1 then
     some true
    else bnd a0.2.2.2.2.1.length x4 fun n9=>
    a0.2.2.2.2.1[n9]?.bind fun y10=>
    (bH (y10,(0:Int),(99991:Int))).bind fun r11=>
    some !r11.1).bind fun x12=>
    bif x12 then
     some (Sum.inr false)
    else some (Sum.inl ())).bind fun y=>match y with
   | .inl x13=>
    self5 (IntKind.wrap .i64 (x4+1))
   | .inr x13=>
    some (Sum.inr x13)
  else some (Sum.inl ())) (0:Int)).bind fun y=>match y with
 | .inl x14=>
  (aK n (X:=Int) (B:=(Unit) ⊕ (Bool)) (fun self16 x15=>
   bif decide (x15<a0.1) then
    bnd a0.2.1.length x15 fun n17=>
    a0.2.1[n17]?.bind fun y18=>
    (bH (y18,(1:Int),(a0.2.2.2.1.length:Int))).bind fun r19=>
    bif !r19.1 then
     some (Sum.inr false)
    else self16 (IntKind.wrap .i64 (x15+1))
   else some (Sum.inl ())) (0:Int)).bind fun y=>match y with
  | .inl x20=>
   (aK n (X:=Int) (B:=(Unit) ⊕ (Bool)) (fun self22 x21=>
    bif decide (x21<(a0.2.2.1.length:Int)) then
     bnd a0.2.2.1.length x21 fun n23=>
     a0.2.2.1[n23]?.bind fun y24=>
     bnd a0.2.1.length y24.1 fun n25=>
     a0.2.1[n25]?.bind fun y26=>
     bnd a0.2.2.1.length x21 fun n27=>
     a0.2.2.1[n27]?.bind fun y28=>
     bnd a0.2.1.length y28.2 fun n29=>
     a0.2.1[n29]?.bind fun y30=>
     bif decide (y26=y30) then
      some (Sum.inr false)
     else self22 (IntKind.wrap .i64 (x21+1))
    else some (Sum.inl ())) (0:Int)).bind fun y=>match y with
   | .inl x31=>
    (aK n (X:=Int) (B:=(Unit) ⊕ (Bool)) (fun self33 x32=>
     bif decide (x32<(a0.2.2.2.2.2.2.2.2.2.2.2.2.2.2.length:Int)) then
      (bnd a0.2.2.2.2.2.2.2.2.2.2.2.2.2.2.length x32 fun n34=>
       a0.2.2.2.2.2.2.2.2.2.2.2.2.2.2[n34]?.bind fun y35=>
       (bif !decide (y35.1=y35.2.1) then
        some true
        else (bH (y35.2.2.2.2.2,(1:Int),(3:Int))).bind fun r36=>
        bif !r36.1 then
         some true
        else (xE (a0,y35.1)).bind fun r37=>
        some (!decide (r37.1=x32))).bind fun x38=>
       bif x38 then
        some (Sum.inr false)
       else some (Sum.inl ())).bind fun y=>match y with
      | .inl x39=>
       self33 (IntKind.wrap .i64 (x32+1))
      | .inr x39=>
       some (Sum.inr x39)
     else some (Sum.inl ())) (0:Int)).bind fun y=>match y with
    | .inl x40=>
     (Ej a0).bind fun r41=>
     some (r41.1,())
    | .inr x40=>
     some (x40,())
   | .inr x31=>
    some (x31,())
  | .inr x20=>
   some (x20,())
 | .inr x14=>
  some (x14,()):=by kernel_rfl
def aef:TC:=
 (zS [dN 4 1] (zS [dD 6,dD 7,au 14 2,su 8 7,JC 9 8,zGb 10 14 9,bR 11 4 0,dP 13 4 4,zGc 15 12 13 14,zGd 16 15,zBt 10 10 16 17 10 10 0 17,nD 18 6,zBu 0 17 10 0 14 19 17] (zR [dD 20,zGe 21,nD 22 20,zGf 0 21 0 5 23 21])))
def aeg:aM:=⟨[.mp pq,.rd true [.d,.d,.d,.d],.rd false [.d]],.u⟩
def aeh:aL:=aG []
def Pf (n:Nat):eO × qP × Int->Option ((Unit) × Int × List Int × List aR × List (List Int) × List Int × Int × Int × Int × Int × Int × Int × Int × List aR × Int × List vD):=aI n aeh aef [bE,fV,[.i .i64]] [] bE [] (.mp 0)
def pI:=Pf BIG
def Gy:TSp:=⟨aeg,[bE,fV,[.i .i64]],[],bE,Ou.j (.mp 0),pI⟩
theorem atz:zK aeh 55 aeg aef 24 (.mp 0) []:=by show _=_;kernel_rfl
theorem Lb:Gy.Ok PG 55:=aQ (az PG) atz (by kernel_rfl)
theorem atA (n) (a0) (a1) (a2):Pf n (a0,a1,a2) = bif decide (a0.2.2.2.2.2.2.2.2.2.2.2.2.2.2.length+([(a1.1,a1.1,a1.2.1,a1.2.2.1,a1.2.2.2,a2)]).length<=4294967296) then some ((),(a0.1,a0.2.1,a0.2.2.1,a0.2.2.2.1,a0.2.2.2.2.1,(0:Int),(0:Int),(0:Int),(0:Int),(0:Int),(0:Int),(0:Int),[],(0:Int),a0.2.2.2.2.2.2.2.2.2.2.2.2.2.2++([(a1.1,a1.1,a1.2.1,a1.2.2.1,a1.2.2.2,a2)]))) else none:=by kernel_rfl
def JN:TC:=
 (zS [yF 6,bB 7] (zS [YJ 12,dK 12 8 12] (zQ (.seq (.join [⟨25,[.b],false⟩] 67100672 none (zR [au 13 0,pz 14 42 13 12,JM 15 14 1 3,JG 18 17 3,zDD 19 18 3 3,ru 16 19 20,au 21 20,jN 22 2 8,JG 23 22 8,zDD 24 23 1000 8,ru 21 24 25])) (zC 25 (zS [TG 26 6,bB 7] .ret) .skip)) (zQ (.join [⟨8,[.sl [.i .i64,.i .i64]],false⟩] 302231454903657159460800 (some [⟨6,[.sl [.i .i64]],false⟩,⟨7,[.b],false⟩]) (zS [bO 9] (.block 0 (.loop [⟨8,[.sl [.i .i64,.i .i64]],false⟩,⟨9,[.i .i64],false⟩] 302231454903657159460800 (zQ (zS [Cb 27 9 1] (zC 30 .skip (.exit 0))) (zQ (.join [⟨8,[.sl [.i .i64,.i .i64]],false⟩] 302231454903648703743424 (some [⟨6,[.sl [.i .i64]],false⟩,⟨7,[.b],false⟩]) (.block 1 (zQ (zS [Tz 33 1 9 1,mr 37 36,au 38 0,xn 39 37 38] (zC 39 (zS [TG 40 6,bB 7] .ret) .skip)) (zS [bO 10] (.block 2 (.loop [⟨8,[.sl [.i .i64,.i .i64]],false⟩,⟨10,[.i .i64],false⟩] 302231454901458270422464 (zQ (zS [TA 41 10 0] (zC 43 .skip (.exit 2))) (zQ (.join [⟨8,[.sl [.i .i64,.i .i64]],false⟩] 302231454833288549499328 (some [⟨6,[.sl [.i .i64]],false⟩,⟨7,[.b],false⟩]) (.block 3 (zQ (zS [Tz 46 1 9 1,au 50 10,nE 51 49 50 1,au 53 10,YK 54 42 52 53,jT 55 54] (zC 55 (zS [TG 56 6,bB 7] .ret) .skip)) (zS [Tz 57 1 9 1,au 61 10,nE 62 60 61 1,au 64 10,gH 65 63 64] (zC 65 (zR [dK 8 66 8,Tz 67 1 9 1,au 71 10,nE 72 70 71 1,au 74 10,M3 75 73 74,JL 76 75 66 66 8]) .skip))))) (zR [JK 44 10]))))))))) (zR [ig 31 9 9]))))))) (zQ (.join [⟨8,[.sl [.i .i64,.i .i64]],false⟩] 633824997882659797091057928640 (some [⟨6,[.sl [.i .i64]],false⟩,⟨7,[.b],false⟩]) (zS [bO 11] (.block 4 (.loop [⟨8,[.sl [.i .i64,.i .i64]],false⟩,⟨11,[.i .i64],false⟩] 633824997882659797091057928640 (zQ (zS [Cb 78 11 2] (zC 81 .skip (.exit 4))) (zQ (.block 5 (zQ (zS [dz 84 0 2,au 86 11,kW 87 85 86 2 2,jO 89 128 84 88,jT 90 89] (zC 90 (zS [TG 91 6,bB 7] .ret) .skip)) (zR [dK 8 92 8,TB 93 2 11 2 2,JL 97 96 92 92 8]))) (zR [JK 82 11]))))))) (zS [au 99 0,dK 8 100 8,zMx 101 142 99 100 6,ic 7] .ret))))))
def JO:aM:=⟨[.rd false [.d],.rd false [.sl (.own none) fG],.rd false iM],(.tup [(false,1),(false,1)] apG)⟩
def JP:aL:=aG [(42,fI),(128,Bd),(142,Ee)]
def zt (n:Nat):Int × List (List Int) × (List aR)->Option ((List Int × Bool) × Unit):=aI n JP JN [[.i .i64],[.sl [.sl [.i .i64]]],[.sl [.i .i64,.i .i64]]] [.sl [.i .i64],.b] [] [6,7] .no
def zu:=zt BIG
def JQ:TSp:=⟨JO,[[.i .i64],[.sl [.sl [.i .i64]]],[.sl [.i .i64,.i .i64]]],[.sl [.i .i64],.b],[],Ou.j .no,zu⟩
theorem acw:zK JP 56 JO JN 102 .no [6,7]:=by show _=_;kernel_rfl
theorem Zq:JQ.Ok PG 56:=aQ (af eX (af CJ (af Nc (az PG)))) acw (by kernel_rfl)
theorem acx (n) (a0) (a1) (a2):zt n (a0,a1,a2) =
 ((bH (a0,(1:Int),(12:Int))).bind fun r0=>
  bif !r0.1 then
   some true
  else bif decide (3<(a1.length:Int)) then
   some true
  else some (decide (1000<(a2.length:Int)))).bind fun x1=>
 bif x1 then
  some (([],false),())
 else (aK n (X:=(List aR) × Int) (B:=((List aR)) ⊕ ((List Int) × Bool)) (fun self3 x2=>
  bif decide (x2.2<(a1.length:Int)) then
   (bnd a1.length x2.2 fun n4=>
    a1[n4]?.bind fun y5=>
    bif !decide ((y5.length:Int)=a0) then
     some (Sum.inr ([],false))
    else aK n (X:=(List aR) × Int) (B:=((List aR)) ⊕ ((List Int) × Bool)) (fun self7 x6=>
     bif decide (x6.2<a0) then
      (bnd a1.length x2.2 fun n8=>
       a1[n8]?.bind fun y9=>
       bnd y9.length x6.2 fun n10=>
       y9[n10]?.bind fun y11=>
       (bH (y11,(0:Int),x6.2)).bind fun r12=>
       bif !r12.1 then
        some (Sum.inr ([],false))
       else bnd a1.length x2.2 fun n13=>
       a1[n13]?.bind fun y14=>
       bnd y14.length x6.2 fun n15=>
       y14[n15]?.bind fun y16=>
       bif decide (y16<x6.2) then
        bnd a1.length x2.2 fun n17=>
        a1[n17]?.bind fun y18=>
        bnd y18.length x6.2 fun n19=>
        y18[n19]?.bind fun y20=>
        bif decide (x6.1.length+([(y20,x6.2)]).length<=4294967296) then
         some (Sum.inl (x6.1++([(y20,x6.2)])))
        else none
       else some (Sum.inl x6.1):Option (((List aR)) ⊕ ((List Int) × Bool))).bind fun y=>match y with
      | .inl x21=>
       self7 (x21,IntKind.wrap .i64 (x6.2+1))
      | .inr x21=>
       some (Sum.inr (x21.1,x21.2))
     else some (Sum.inl x6.1)) (x2.1,(0:Int)):Option (((List aR)) ⊕ ((List Int) × Bool))).bind fun y=>match y with
   | .inl x22=>
    self3 (x22,IntKind.wrap .i64 (x2.2+1))
   | .inr x22=>
    some (Sum.inr (x22.1,x22.2))
  else some (Sum.inl x2.1)) ([],(0:Int))).bind fun y=>match y with
 | .inl x23=>
  (aK n (X:=(List aR) × Int) (B:=((List aR)) ⊕ ((List Int) × Bool)) (fun self25 x24=>
   bif decide (x24.2<(a2.length:Int)) then
    bnd a2.length x24.2 fun n26=>
    a2[n26]?.bind fun y27=>
    (wu (a0,y27)).bind fun r28=>
    bif !r28.1 then
     some (Sum.inr ([],false))
    else bnd a2.length x24.2 fun n29=>
    a2[n29]?.bind fun y30=>
    bif decide (x24.1.length+[y30].length<=4294967296) then
     self25 (x24.1++[y30],IntKind.wrap .i64 (x24.2+1))
    else none
   else some (Sum.inl x24.1)) (x23,(0:Int))).bind fun y=>match y with
  | .inl x31=>
   (xy (a0,x31)).bind fun r32=>
   some ((r32.1,true),())
  | .inr x31=>
   some (x31,())
 | .inr x23=>
  some (x23,()):=by kernel_rfl
def Zr:TC:=
 (zS [dN 5 1,[o5 (.a (.t 3)) 7 3],bO 8] (zS [dD 9,Bb 10 9 4,au 13 2,yI 14 13,Gb 15 12 14 0 4 1,BZ 17 16,M9 18 7 7 0 17] (zS [yM 19 5 4,au 21 2,iZ 22 7 4,zGj,nD 24 19,zGk] (zS [nZ 8 2] .ret))))
def Zt:aM:=⟨[.mp pq,.rd true [.d,.d,.d,.d],.rd false [.d],.tk true OC],(.one false [.d])⟩
def Zu:aL:=aG []
def Lc (n:Nat):eO × qP × Int × Eb->Option ((Int) × Int × List Int × List aR × List (List Int) × List Int × Int × Int × Int × Int × Int × Int × Int × List aR × Int × List vD):=aI n Zu Zr [bE,fV,[.i .i64],kH] [.i .i64] bE [8] (.mp 0)
def CO:=Lc BIG
def Ld:TSp:=⟨Zt,[bE,fV,[.i .i64],kH],[.i .i64],bE,Ou.j (.mp 0),CO⟩
theorem apY:zK Zu 57 Zt Zr 26 (.mp 0) [8]:=by show _=_;kernel_rfl
theorem Uc:Ld.Ok PG 57:=aQ (az PG) apY (by kernel_rfl)
theorem apZ (n) (a0) (a1) (a2) (a3):Lc n (a0,a1,a2,a3) = bnd a0.2.2.2.2.1.length (IntKind.wrap .i64 (a2-1)) fun n0=> a0.2.2.2.2.1[n0]?.bind fun y1=> some ((2:Int),(a0.1,a0.2.1,a0.2.2.1,a0.2.2.2.1,a0.2.2.2.2.1,a1.1,a1.2.1,a1.2.2.1,a1.2.2.2,a2,IntKind.wrap .i64 (y1+1),a3.2.1,a3.2.2.1,a3.2.2.2,a0.2.2.2.2.2.2.2.2.2.2.2.2.2.2)):=by kernel_rfl
def Zv:TC:=
 (zS [dN 1 0,rC 2 1000000003] (zQ (zS [iV 3 1 2 3,iV 5 1 3 5,gH 7 4 6] (zC 7 (zS [iV 8 1 2 8,bR 10 1 3,M3 12 9 11,eB 2 2 12] .ret) .skip)) (zS [pG 13 1 3 1 2,M3 17 14 16,eB 2 2 17] .ret)))
def Zw:aM:=⟨[.rd true [.d,.d,.d,.d]],(.one true [.d,.d])⟩
def Zx:aL:=aG []
def Lf (n:Nat):qP->Option (aR × Unit):=aI n Zx Zv [fV] [.i .i64,.i .i64] [] [2] .no
def Lg:=Lf BIG
def Zy:TSp:=⟨Zw,[fV],[.i .i64,.i .i64],[],Ou.j .no,Lg⟩
theorem ap0:zK Zx 45 Zw Zv 18 .no [2]:=by show _=_;kernel_rfl
theorem ali:Zy.Ok PG 45:=aQ (az PG) ap0 (by kernel_rfl)
theorem ap1 (n) (a0):Lf n a0 = bif decide (a0.2.2.1<a0.2.2.2) then some (a0.2.2,()) else some ((a0.2.2.2,a0.2.2.1),()):=by kernel_rfl
def aei:TC:=
 (zS [kX 3 1] (zQ (.join [] 262128 (some [⟨4,[.b],false⟩]) (zS [bO 5] (.block 0 (.loop [⟨5,[.i .i64],false⟩] 262128 (zQ (zS [dz 6 5 0,mr 8 7,gH 9 6 8] (zC 9 .skip (.exit 0))) (zQ (.block 1 (zS [TB 12 0 5 2 2,dP 16 3 2,[o1 17 (.eqA [.i,.i] (.t 15) (.t 16) false)]] (zC 17 (zS [ic 4] .ret) .skip))) (zR [ig 10 5 5]))))))) (zS [bB 4] .ret)))
def aej:aM:=⟨[.rd false iM,.rd true [.d,.d]],(.one false [.d])⟩
def aek:aL:=aG []
def Gz (n:Nat):(List aR) × aR->Option ((Bool) × Unit):=aI n aek aei [[.sl [.i .i64,.i .i64]],[.i .i64,.i .i64]] [.b] [] [4] .no
def ww:=Gz BIG
def Bf:TSp:=⟨aej,[[.sl [.i .i64,.i .i64]],[.i .i64,.i .i64]],[.b],[],Ou.j .no,ww⟩
theorem atB:zK aek 143 aej aei 18 .no [4]:=by show _=_;kernel_rfl
theorem CP:Bf.Ok PG 143:=aQ (az PG) atB (by kernel_rfl)
theorem ael (n) (a0) (a1):Gz n (a0,a1) = (aK n (X:=Int) (B:=(Unit) ⊕ (Bool)) (fun self1 x0=> bif decide (x0<(a0.length:Int)) then bnd a0.length x0 fun n2=> a0[n2]?.bind fun y3=> bif (decide (y3.1=a1.1)&&(decide (y3.2=a1.2)&&true)) then some (Sum.inr true) else self1 (IntKind.wrap .i64 (x0+1)) else some (Sum.inl ())) (0:Int)).bind fun y=>match y with | .inl x4=> some (false,()) | .inr x4=> some (x4,()):=by kernel_rfl
def Nk:TC:=
 (zS [dN 3 1,A9 4] (zS [YJ 7,dK 7 5 7] (zQ (.join [⟨5,[.sl [.i .i64,.i .i64]],false⟩] 134217568 none (zS [bO 6] (.block 0 (.loop [⟨5,[.sl [.i .i64,.i .i64]],false⟩,⟨6,[.i .i64],false⟩] 134217568 (zQ (zS [dz 8 6 0,yJ 10 9 8] (zC 11 .skip (.exit 0))) (zQ (.join [⟨5,[.sl [.i .i64,.i .i64]],false⟩] 134201376 none (.block 1 (zS [TB 14 0 6 2 2,dP 18 3 2,zEk 19 17 18] (zC 19 (zR [dK 5 20 5,TB 21 0 6 2 2,JL 25 24 20 20 5]) .skip)))) (zR [ig 12 6 6]))))))) (zS [t_ 5 27 5 4] .ret))))
def Nl:aM:=⟨[.rd false iM,.rd true [.d,.d]],(.one false iM)⟩
def Nn:aL:=aG []
def BJ (n:Nat):(List aR) × aR->Option ((List aR) × Unit):=aI n Nn Nk [[.sl [.i .i64,.i .i64]],[.i .i64,.i .i64]] [.sl [.i .i64,.i .i64]] [] [4] .no
def uR:=BJ BIG
def BK:TSp:=⟨Nl,[[.sl [.i .i64,.i .i64]],[.i .i64,.i .i64]],[.sl [.i .i64,.i .i64]],[],Ou.j .no,uR⟩
theorem af2:zK Nn 131 Nl Nk 28 .no [4]:=by show _=_;kernel_rfl
theorem JR:BK.Ok PG 131:=aQ (az PG) af2 (by kernel_rfl)
theorem af3 (n) (a0) (a1):BJ n (a0,a1) = (aK n (X:=(List aR) × Int) (B:=(List aR)) (fun self1 x0=> bif decide (x0.2<(a0.length:Int)) then (bnd a0.length x0.2 fun n2=> a0[n2]?.bind fun y3=> bif !(decide (y3.1=a1.1)&&(decide (y3.2=a1.2)&&true)) then bnd a0.length x0.2 fun n4=> a0[n4]?.bind fun y5=> bif decide (x0.1.length+[y5].length<=4294967296) then some (x0.1++[y5]) else none else some x0.1:Option ((List aR))).bind fun x6=> self1 (x6,IntKind.wrap .i64 (x0.2+1)) else some x0.1) ([],(0:Int))).bind fun x7=> some (x7,()):=by kernel_rfl
def aem:TC:=
 (zS [dN 3 1,A9 4] (zS [YJ 8,dK 8 5 8] (zQ (.join [⟨5,[.sl [.i .i64,.i .i64]],false⟩] 268435040 none (zS [bO 6] (.block 0 (.loop [⟨5,[.sl [.i .i64,.i .i64]],false⟩,⟨6,[.i .i64],false⟩] 268435040 (zQ (zS [dz 9 6 0,yJ 11 10 9] (zC 12 .skip (.exit 0))) (zQ (.join [⟨5,[.sl [.i .i64,.i .i64]],false⟩] 268402720 none (.block 1 (zS [TB 15 0 6 2 2,yK 19 3 2 187 18] (zC 20 (zR [dK 5 21 5,TB 22 0 6 2 2,JL 26 25 21 21 5]) .skip)))) (zR [ig 13 6 6]))))))) (zS [dK 5 28 5,dP 29 3 2,JL 30 29 28 28 5] (zQ (.join [⟨5,[.sl [.i .i64,.i .i64]],false⟩] 2251795518718112 none (zS [bO 7] (.block 2 (.loop [⟨5,[.sl [.i .i64,.i .i64]],false⟩,⟨7,[.i .i64],false⟩] 2251795518718112 (zQ (zS [Cb 32 7 0] (zC 35 .skip (.exit 2))) (zQ (.join [⟨5,[.sl [.i .i64,.i .i64]],false⟩] 2251524935778336 none (.block 3 (zS [dz 39 0 7,dP 38 3 2,kW 41 39 40 2 2,jO 43 187 38 42] (zC 43 (zR [dK 5 44 5,TB 45 0 7 2 2,JL 49 48 44 44 5]) .skip)))) (zR [ig 36 7 7]))))))) (zS [t_ 5 51 5 4] .ret))))))
def aen:aM:=⟨[.rd false iM,.rd true [.d,.d]],(.one false iM)⟩
def aeo:aL:=aG [(187,K8)]
def Pg (n:Nat):(List aR) × aR->Option ((List aR) × Unit):=aI n aeo aem [[.sl [.i .i64,.i .i64]],[.i .i64,.i .i64]] [.sl [.i .i64,.i .i64]] [] [4] .no
def Bg:=Pg BIG
def GA:TSp:=⟨aen,[[.sl [.i .i64,.i .i64]],[.i .i64,.i .i64]],[.sl [.i .i64,.i .i64]],[],Ou.j .no,Bg⟩
theorem atC:zK aeo 130 aen aem 52 .no [4]:=by show _=_;kernel_rfl
theorem Lh:GA.Ok PG 130:=aQ (af TU (az PG)) atC (by kernel_rfl)
theorem atD (n) (a0) (a1):Pg n (a0,a1) = (aK n (X:=(List aR) × Int) (B:=(List aR)) (fun self1 x0=> bif decide (x0.2<(a0.length:Int)) then (bnd a0.length x0.2 fun n2=> a0[n2]?.bind fun y3=> (xB (y3,a1)).bind fun r4=> bif r4.1 then bnd a0.length x0.2 fun n5=> a0[n5]?.bind fun y6=> bif decide (x0.1.length+[y6].length<=4294967296) then some (x0.1++[y6]) else none else some x0.1:Option ((List aR))).bind fun x7=> self1 (x7,IntKind.wrap .i64 (x0.2+1)) else some x0.1) ([],(0:Int))).bind fun x8=> bif decide (x8.length+[a1].length<=4294967296) then (aK n (X:=(List aR) × Int) (B:=(List aR)) (fun self10 x9=> bif decide (x9.2<(a0.length:Int)) then (bnd a0.length x9.2 fun n11=> a0[n11]?.bind fun y12=> (xB (a1,y12)).bind fun r13=> bif r13.1 then bnd a0.length x9.2 fun n14=> a0[n14]?.bind fun y15=> bif decide (x9.1.length+[y15].length<=4294967296) then some (x9.1++[y15]) else none else some x9.1:Option ((List aR))).bind fun x16=> self10 (x16,IntKind.wrap .i64 (x9.2+1)) else some x9.1) (x8++[a1],(0:Int))).bind fun x17=> some (x17,()) else none:=by kernel_rfl
def Ph:TC:=
 (zS [dN 3 1,bO 4] (zS [dP 8 3 4,gI 9 45 8,rC 5 1000000006,eB 5 5 9] (zS [nZ 6 1] (zQ (.join [⟨6,[.i .i64],false⟩] 7232 none (zS [bR 10 3 1,xm 12 11 2] (zC 12 (zR [nZ 6 2]) .skip))) (zQ (zS [dD 13,dD 21,Bb 14 13 1,bR 17 5 0,Gb 19 16 18 0 1 1,Bb 22 21 1,bR 25 5 1,Gb 27 24 26 0 1 1,pE 29 20 28] (zC 29 (zS [dD 30,dD 32,au 40 6,dP 31 3 4,Bb 33 32 1,bR 36 5 0,Gb 38 35 37 0 1 1,dP 41 5 2,zGh 42 41,[o5 (.build kH [(1,.t 40),(2,.t 42)]) 43 42,⟨false,[],[],.call 3 57 [.t 0,.t 31,.t 39,.t 43] (.mp 0),[44,0,43,16,19,24,27,38,35],(some 44),none⟩],au 4 44] .ret) .skip)) (zS [Ga 45 2,yK 49 5 2 143 48,au 7 50] (zQ (zS [Tw 51 7 3 1,xm 54 53 1,[o1 55 (.data (.beq false) [.t 51,.t 54])]] (zC 55 (zS [yM 56 3 4,[⟨false,[],[],.call 2 55 [.t 0,.t 57,kO 2] (.mp 0),[58,0,16,19,24,27,48],(some 58),none⟩]] (zS [nZ 4 1] .ret)) .skip)) (zQ (.join [⟨0,bE,false⟩] 302230878724380118548481 none (zS [au 59 7] (zC 59 (zR [dD 60,Ga 61 2,yK 65 5 2 131 64,nD 67 60,zGo 66 64 68 66]) (zR [dD 69,Ga 70 2,yK 74 5 2 130 73,nD 76 69,zGo 75 73 77 75])))) (zS [yM 78 3 4,OH 55 0 79 1 80 0 80] (zS [nZ 4 1] .ret))))))))))
def Pi:aM:=⟨[.mp pq,.rd true [.d,.d,.d,.d]],(.one false [.d])⟩
def Pj:aL:=aG [(45,Zy),(57,Ld),(143,Bf),(55,Gy),(131,BK),(130,GA)]
def El (n:Nat):eO × qP->Option ((Int) × Int × List Int × List aR × List (List Int) × List Int × Int × Int × Int × Int × Int × Int × Int × List aR × Int × List vD):=aI n Pj Ph [bE,fV] [.i .i64] bE [4] (.mp 0)
def Em:=El BIG
def Pk:TSp:=⟨Pi,[bE,fV],[.i .i64],bE,Ou.j (.mp 0),Em⟩
theorem aij:zK Pj 58 Pi Ph 81 (.mp 0) [4]:=by show _=_;kernel_rfl
theorem af4:Pk.Ok PG 58:=aQ (af ali (af Uc (af CP (af Lb (af JR (af Lh (az PG))))))) aij (by kernel_rfl)
theorem aik (n) (a0) (a1):El n (a0,a1) = (Lg a1).bind fun r0=> (bif decide (a1.2.1=2) then some (2:Int) else some (1:Int)).bind fun x1=> bnd a0.2.1.length r0.1.1 fun n2=> a0.2.1[n2]?.bind fun y3=> bnd a0.2.1.length r0.1.2 fun n4=> a0.2.1[n4]?.bind fun y5=> bif decide (y3=y5) then bnd a0.2.1.length r0.1.1 fun n6=> a0.2.1[n6]?.bind fun y7=> (CO (a0,a1,y7,((0:Int),x1,[r0.1],(0:Int)))).bind fun r8=> some (r8.1,r8.2) else (ww (a0.2.2.1,r0.1)).bind fun r9=> bif (r9.1 == (decide (a1.2.1=1))) then (pI (a0,a1,(2:Int))).bind fun r10=> some ((1:Int),r10.2) else (bif r9.1 then (uR (a0.2.2.1,r0.1)).bind fun r11=> some (a0.1,a0.2.1,r11.1,a0.2.2.2) else (Bg (a0.2.2.1,r0.1)).bind fun r12=> some (a0.1,a0.2.1,r12.1,a0.2.2.2)).bind fun x13=> (pI (x13,a1,(1:Int))).bind fun r14=> some ((1:Int),r14.2):=by kernel_rfl
def anF:TC:=
 (zS [dN 2 0,dN 3 1,qi 4 1000000005,bO 5] (zS [Bc 12 2 15 51,qi 6 1000000007,iY 6 13 6 13] (zQ (.seq (.join [⟨39,[.b],false⟩] 1099511611392 none (zR [dP 14 2 15,gI 15 52 14,Na 16 15 3 3 0 3,YS 42 19 100000 20 20 3 3 17,D8 24 2 15 9,Ba 25 9 3 0 9,yH 53 24 26 27 27 9,zGq 28 27 0 9,ru 23 28 29,au 30 29,D8 31 2 15 16,Tq 39 31 32 32 16,ru 30 32 33,au 34 33,zLB 35 20 2 14,zGq 38 37 80 20,ru 34 38 39])) (zC 39 (zS [xu 40 6 15 4 4 6,bO 5] .ret) .skip)) (zQ (zS [dP 41 2 15,yK 42 3 4 54 41,jT 44 43] (zC 44 (zS [dP 45 3 4,OH 55 6 45 3 46 6 46] (zS [xu 47 6 15 4 4 6,nZ 5 1] .ret)) .skip)) (zQ (zS [bR 48 3 1] (.block 0 (zS [TH 51 49 3] (zC 50 (zS [pG 53 2 0 2 3,bR 57 2 2,D9 59 56 54 56 58,Ea 59 52 59 1 1,dK 60 7 60,au 8 61] (zS [nZ 9 2] (zQ (.join [⟨9,[.i .i64],false⟩] 9440121279720863040000 none (zS [gp 62 7,gp 67 7,OO 63 3 2 62 7 1,OO 68 3 3 67 7 1,pE 72 66 71] (zC 72 (zR [nZ 9 1]) .skip))) (zS [dP 73 3 4,au 74 9,zGt 55 6 73 74 75 6 75] (zS [xu 76 6 15 4 4 6,nZ 5 1] .ret))))) (zS [yN 78 49 4 77] (zC 77 (zQ (zS [pG 79 2 1 3 2,nE 83 80 82 1,bR 85 3 3,pE 87 84 86] (zC 87 (zS [dP 88 3 4,OH 55 6 88 2 89 6 89] (zS [xu 90 6 15 4 4 6,nZ 5 1] .ret)) .skip)) (zS [zGu 1000000002 4 91 91,M5 1000000002 92 92 2 1,zMh 1000000002 94 94 3 2 93,zGy 1000000002 93 0 1 96 97 97,bR 98 3 2,zGz 99 100,zGA 57 6 91 97 100 101 6 100 101,au 10 101] (zS [iZ 102 6 15,au 103 10,DZ 102 4 102 4 102 102 6,au 5 103] .ret))) .skip)))))) (zS [dP 104 3 4,zGB 58 6 104 105 6 105,au 11 105] (zS [iZ 106 6 15,au 107 11,DZ 106 4 106 4 106 106 6,au 5 107] .ret)))))))
def anG:aM:=⟨[.rd true pq,.rd true [.d,.d,.d,.d]],(.tup [(true,15),(false,1)] Ct0)⟩
def anH:aL:=aG [(51,CG),(52,Pe),(42,fI),(53,CK),(39,Sy),(54,Io),(55,Gy),(56,JQ),(57,Ld),(58,Pk)]
def acy (n:Nat):eO × qP->Option (Zt2 × Unit):=aI n anH anF [bE,fV] Ty0 [] [4,5] .no
def Dp:=acy BIG
def acz:TSp:=⟨anG,[bE,fV],Ty0,[],Ou.j .no,Dp⟩
theorem azO:zK anH 11 anG anF 108 .no [4,5]:=by show _=_;kernel_rfl
theorem ail:acz.Ok PG 11:=aQ (af Ij (af Zp (af eX (af Il (af WS (af O7 (af Lb (af Zq (af Uc (af af4 (az PG))))))))))) azO (by kernel_rfl)
theorem azP (n) (a0) (a1):acy n (a0,a1) = (og a0).bind fun r0=> ((Be a0).bind fun r1=> bif !r1.1 then some true else (bH (a1.1,(1:Int),(100000:Int))).bind fun r2=> bif !r2.1 then some true else (xE (a0,a1.1)).bind fun r3=> bif decide (0<=r3.1) then some true else (Dm a0).bind fun r4=> bif r4.1 then some true else some (decide (80<=(a0.2.2.2.2.2.2.2.2.2.2.2.2.2.2.length:Int)))).bind fun x5=> bif x5 then some ((r0.1.1,r0.1.2.1,r0.1.2.2.1,r0.1.2.2.2.1,r0.1.2.2.2.2.1,r0.1.2.2.2.2.2.1,r0.1.2.2.2.2.2.2.1,r0.1.2.2.2.2.2.2.2.1,r0.1.2.2.2.2.2.2.2.2.1,r0.1.2.2.2.2.2.2.2.2.2.1,r0.1.2.2.2.2.2.2.2.2.2.2.1,r0.1.2.2.2.2.2.2.2.2.2.2.2.1,r0.1.2.2.2.2.2.2.2.2.2.2.2.2.1,r0.1.2.2.2.2.2.2.2.2.2.2.2.2.2.1,r0.1.2.2.2.2.2.2.2.2.2.2.2.2.2.2,(0:Int)),()) else (Ah (a0,a1)).bind fun r6=> bif !r6.1 then (pI (r0.1,a1,(3:Int))).bind fun r7=> some ((r7.2.1,r7.2.2.1,r7.2.2.2.1,r7.2.2.2.2.1,r7.2.2.2.2.2.1,r7.2.2.2.2.2.2.1,r7.2.2.2.2.2.2.2.1,r7.2.2.2.2.2.2.2.2.1,r7.2.2.2.2.2.2.2.2.2.1,r7.2.2.2.2.2.2.2.2.2.2.1,r7.2.2.2.2.2.2.2.2.2.2.2.1,r7.2.2.2.2.2.2.2.2.2.2.2.2.1,r7.2.2.2.2.2.2.2.2.2.2.2.2.2.1,r7.2.2.2.2.2.2.2.2.2.2.2.2.2.2.1,r7.2.2.2.2.2.2.2.2.2.2.2.2.2.2.2,(1:Int)),()) else bif decide (a1.2.1=3) then (zu (a0.1,a0.2.2.2.1,a0.2.2.1)).bind fun r8=> (bnd r8.1.1.length a1.2.2.1 fun n9=> r8.1.1[n9]?.bind fun y10=> bnd r8.1.1.length a1.2.2.2 fun n11=> r8.1.1[n11]?.bind fun y12=> bif decide (y10=y12) then some (1:Int) else some (2:Int)).bind fun x13=> (pI (r0.1,a1,x13)).bind fun r14=> some ((r14.2.1,r14.2.2.1,r14.2.2.2.1,r14.2.2.2.2.1,r14.2.2.2.2.2.1,r14.2.2.2.2.2.2.1,r14.2.2.2.2.2.2.2.1,r14.2.2.2.2.2.2.2.2.1,r14.2.2.2.2.2.2.2.2.2.1,r14.2.2.2.2.2.2.2.2.2.2.1,r14.2.2.2.2.2.2.2.2.2.2.2.1,r14.2.2.2.2.2.2.2.2.2.2.2.2.1,r14.2.2.2.2.2.2.2.2.2.2.2.2.2.1,r14.2.2.2.2.2.2.2.2.2.2.2.2.2.2.1,r14.2.2.2.2.2.2.2.2.2.2.2.2.2.2.2,(1:Int)),()) else bif decide (a1.2.1=4) then bnd a0.2.1.length a1.2.2.1 fun n15=> a0.2.1[n15]?.bind fun y16=> bif decide (y16=a1.2.2.2) then (pI (r0.1,a1,(2:Int))).bind fun r17=> some ((r17.2.1,r17.2.2.1,r17.2.2.2.1,r17.2.2.2.2.1,r17.2.2.2.2.2.1,r17.2.2.2.2.2.2.1,r17.2.2.2.2.2.2.2.1,r17.2.2.2.2.2.2.2.2.1,r17.2.2.2.2.2.2.2.2.2.1,r17.2.2.2.2.2.2.2.2.2.2.1,r17.2.2.2.2.2.2.2.2.2.2.2.1,r17.2.2.2.2.2.2.2.2.2.2.2.2.1,r17.2.2.2.2.2.2.2.2.2.2.2.2.2.1,r17.2.2.2.2.2.2.2.2.2.2.2.2.2.2.1,r17.2.2.2.2.2.2.2.2.2.2.2.2.2.2.2,(1:Int)),()) else bnd a0.2.1.length a1.2.2.1 fun n18=> a0.2.1[n18]?.bind fun y19=> (CO (r0.1,a1,y19,((0:Int),(3:Int),[],a1.2.2.1))).bind fun r20=> some ((r20.2.1,r20.2.2.1,r20.2.2.2.1,r20.2.2.2.2.1,r20.2.2.2.2.2.1,r20.2.2.2.2.2.2.1,r20.2.2.2.2.2.2.2.1,r20.2.2.2.2.2.2.2.2.1,r20.2.2.2.2.2.2.2.2.2.1,r20.2.2.2.2.2.2.2.2.2.2.1,r20.2.2.2.2.2.2.2.2.2.2.2.1,r20.2.2.2.2.2.2.2.2.2.2.2.2.1,r20.2.2.2.2.2.2.2.2.2.2.2.2.2.1,r20.2.2.2.2.2.2.2.2.2.2.2.2.2.2.1,r20.2.2.2.2.2.2.2.2.2.2.2.2.2.2.2,r20.1),()) else (Em (r0.1,a1)).bind fun r21=> some ((r21.2.1,r21.2.2.1,r21.2.2.2.1,r21.2.2.2.2.1,r21.2.2.2.2.2.1,r21.2.2.2.2.2.2.1,r21.2.2.2.2.2.2.2.1,r21.2.2.2.2.2.2.2.2.1,r21.2.2.2.2.2.2.2.2.2.1,r21.2.2.2.2.2.2.2.2.2.2.1,r21.2.2.2.2.2.2.2.2.2.2.2.1,r21.2.2.2.2.2.2.2.2.2.2.2.2.1,r21.2.2.2.2.2.2.2.2.2.2.2.2.2.1,r21.2.2.2.2.2.2.2.2.2.2.2.2.2.2.1,r21.2.2.2.2.2.2.2.2.2.2.2.2.2.2.2,r21.1),()):=by kernel_rfl
def Zz:TC:=
 (zS [dN 1 0,zGC 2 1000000003] (zS [iV 5 1 0 5,[o1 7 (.build kU [(0,.t 6)])],zGC 3 1000000004,iY 3 7 3 7] (zQ (.join [⟨3,kU,false⟩] 8589934360 none (zS [bO 4] (.block 0 (.loop [⟨3,kU,false⟩,⟨4,[.i .i64],false⟩] 8589934360 (zQ (zS [au 8 4,iV 9 1 1 9,yJ 11 10 8] (zC 12 .skip (.exit 0))) (zQ (.block 1 (zR [au 19 4,au 25 4,uA 15 3 1,bR 17 1 1,Tx 20 18 19 4,bR 23 1 1,zMe 26 24 25 4 1,M3 29 22 28,zGh 30 29,YO 16 16 30 31 16 16 3 31 3 3 1])) (zR [ig 13 4 4]))))))) (zS [xu 33 3 2 2 2 3] .ret))))
def ZB:aM:=⟨[.rd true nJ],(.one true OD)⟩
def ZC:aL:=aG []
def Li (n:Nat):eD->Option (BH × Unit):=aI n ZC Zz [bK] kU [] [2] .no
def mf:=Li BIG
def xK:TSp:=⟨ZB,[bK],kU,[],Ou.j .no,mf⟩
theorem ap2:zK ZC 123 ZB Zz 34 .no [2]:=by show _=_;kernel_rfl
theorem Ai:xK.Ok PG 123:=aQ (az PG) ap2 (by kernel_rfl)
theorem ap3 (n) (a0):Li n a0 = (aK n (X:=BH × Int) (B:=BH) (fun self1 x0=> bif decide (x0.2<(a0.2.length:Int)) then bnd a0.2.length x0.2 fun n2=> a0.2[n2]?.bind fun y3=> bnd a0.2.length x0.2 fun n4=> a0.2[n4]?.bind fun y5=> bif decide (x0.1.2.length+([(y3.1,y5.2.1)]).length<=4294967296) then self1 ((x0.1.1,x0.1.2++([(y3.1,y5.2.1)])),IntKind.wrap .i64 (x0.2+1)) else none else some x0.1) ((a0.1,[]),(0:Int))).bind fun x6=> some (x6,()):=by kernel_rfl
def ZE:TC:=
 (zS [kX 1 0] (zQ (.join [⟨2,[.b],false⟩] 8188 none (zR [iV 3 1 0 3,pz 5 42 4 12,au 6 5,ry 7 3,B_ 8 1 0 7 3,ry 9 3,B_ 10 1 1 9 3,qj 139 8 10 11 11 3,nG 6 11 12 2])) .ret))
def ZF:aM:=⟨[.rd true OD],(.one false [.d])⟩
def ZG:aL:=aG [(42,fI),(139,uC)]
def Lj (n:Nat):BH->Option ((Bool) × Unit):=aI n ZG ZE [kU] [.b] [] [2] .no
def CQ:=Lj BIG
def Ll:TSp:=⟨ZF,[kU],[.b],[],Ou.j .no,CQ⟩
theorem ap4:zK ZG 127 ZF ZE 13 .no [2]:=by show _=_;kernel_rfl
theorem Ud:Ll.Ok PG 127:=aQ (af eX (af xC (az PG))) ap4 (by kernel_rfl)
theorem ap5 (n) (a0):Lj n a0 = ((bH (a0.1,(1:Int),(12:Int))).bind fun r0=> bif r0.1 then (qF (a0.1,a0.2)).bind fun r1=> some r1.1 else some false).bind fun x2=> some (x2,()):=by kernel_rfl
def ZH:TC:=
 (zS [dN 2 0,A9 4] (zS [YJ 8,dK 8 5 8] (zQ (.join [⟨5,[.sl [.i .i64,.i .i64]],false⟩] 137438953184 none (zS [bO 6] (.block 0 (.loop [⟨5,[.sl [.i .i64,.i .i64]],false⟩,⟨6,[.i .i64],false⟩] 137438953184 (zQ (zS [Tw 9 6 2 1,yJ 12 11 9] (zC 13 .skip (.exit 0))) (zQ (.join [⟨5,[.sl [.i .i64,.i .i64]],false⟩] 137438888096 none (.block 1 (zS [Gf 16 2 1 6,kW 19 17 18 4 4,Tt 7 1000000008,eB 7 7 20] (zQ (.join [⟨28,[.b],false⟩] 534773760 none (zR [bR 21 7 3,uB 23 22 2 7 2 2,iJ 26 1 2,zGE 27 25 26 2,pu 23 27 28])) (zC 28 (zR [dK 5 29 5,pG 30 7 0 7 1,M3 34 31 33,JL 35 34 29 29 5]) .skip))))) (zR [ig 14 6 6]))))))) (zS [t_ 5 37 5 4] .ret))))
def ZI:aM:=⟨[.rd true nJ,.rd false [.d]],(.one false iM)⟩
def ZJ:aL:=aG []
def CR (n:Nat):eD × Int->Option ((List aR) × Unit):=aI n ZJ ZH [bK,[.i .i64]] [.sl [.i .i64,.i .i64]] [] [4] .no
def Lm:=CR BIG
def ZK:TSp:=⟨ZI,[bK,[.i .i64]],[.sl [.i .i64,.i .i64]],[],Ou.j .no,Lm⟩
theorem ap6:zK ZJ 203 ZI ZH 38 .no [4]:=by show _=_;kernel_rfl
theorem alj:ZK.Ok PG 203:=aQ (az PG) ap6 (by kernel_rfl)
theorem ZL (n) (a0) (a1):CR n (a0,a1) = (aK n (X:=(List aR) × Int) (B:=(List aR)) (fun self1 x0=> bif decide (x0.2<(a0.2.length:Int)) then (bnd a0.2.length x0.2 fun n2=> a0.2[n2]?.bind fun y3=> (bif y3.2.2.2 then some (decide (a1<=y3.2.2.1)) else some false).bind fun x4=> bif x4 then bif decide (x0.1.length+([(y3.1,y3.2.1)]).length<=4294967296) then some (x0.1++([(y3.1,y3.2.1)])) else none else some x0.1:Option ((List aR))).bind fun x5=> self1 (x5,IntKind.wrap .i64 (x0.2+1)) else some x0.1) ([],(0:Int))).bind fun x6=> some (x6,()):=by kernel_rfl
def aim:TC:=
 (zS [bB 4] (zQ (.join [] 262128 (some [⟨4,[.b],false⟩]) (zS [bO 5] (.block 0 (.loop [⟨5,[.i .i64],false⟩] 262128 (zQ (zS [dz 6 5 0,mr 8 7,gH 9 6 8] (zC 9 .skip (.exit 0))) (zQ (.block 1 (zS [Tz 12 0 5 1,au 16 1,pE 17 15 16] (zC 17 (zS [ic 4] .ret) .skip))) (zR [ig 10 5 5]))))))) (zS [bB 4] .ret)))
def ain:aM:=⟨[.rd false fG,.rd false [.d]],(.one false [.d])⟩
def aio:aL:=aG []
def WX (n:Nat):List Int × Int->Option ((Bool) × Unit):=aI n aio aim [[.sl [.i .i64]],[.i .i64]] [.b] [] [4] .no
def jV:=WX BIG
def vE:TSp:=⟨ain,[[.sl [.i .i64]],[.i .i64]],[.b],[],Ou.j .no,jV⟩
theorem awp:zK aio 204 ain aim 18 .no [4]:=by show _=_;kernel_rfl
theorem wy:vE.Ok PG 204:=aQ (az PG) awp (by kernel_rfl)
theorem awq (n) (a0) (a1):WX n (a0,a1) = (aK n (X:=Int) (B:=(Unit) ⊕ (Bool)) (fun self1 x0=> bif decide (x0<(a0.length:Int)) then bnd a0.length x0 fun n2=> a0[n2]?.bind fun y3=> bif decide (y3=a1) then some (Sum.inr true) else self1 (IntKind.wrap .i64 (x0+1)) else some (Sum.inl ())) (0:Int)).bind fun y=>match y with | .inl x4=> some (false,()) | .inr x4=> some (x4,()):=by kernel_rfl
def Lp:TC:=
 (zS [yF 10,bB 11] (zS [au 17 2,JD 18 17,dK 18 12 18] (zS [Gd 19 4 2,xg 21 19 20,zHa 4 19 4 0 1 0 21] (zQ (.join [⟨12,[.sl [.i .i64]],false⟩,⟨4,[.sl [.b]],false⟩] 147573952589672348688 (some [⟨10,[.sl [.i .i64]],false⟩,⟨11,[.b],false⟩,⟨4,[.sl [.b]],false⟩]) (zS [bO 13] (.block 0 (.loop [⟨12,[.sl [.i .i64]],false⟩,⟨4,[.sl [.b]],false⟩,⟨13,[.i .i64],false⟩] 147573952589674445840 (zQ (zS [TA 22 13 0] (zC 24 .skip (.exit 0))) (zQ (.join [⟨12,[.sl [.i .i64]],false⟩,⟨4,[.sl [.b]],false⟩] 147573952589542317072 (some [⟨10,[.sl [.i .i64]],false⟩,⟨11,[.b],false⟩,⟨4,[.sl [.b]],false⟩]) (.block 1 (zS [dz 27 13 2,M3 29 27 28,rC 14 1000000015,eB 14 14 29] (zQ (.join [⟨14,[.i .i64,.i .i64],false⟩] 67645751296 none (zS [TA 30 2 13] (zC 32 (zR [dz 33 2 13,M3 35 33 34,eB 14 14 35]) .skip))) (zQ (.seq (.join [⟨44,[.b],false⟩] 35115652612096 none (zR [dz 36 13 3,pE 38 36 37,au 39 38,jN 40 1 3,TD 41 14 2 3 143 40 3,tZ 43 42 3 39])) (zC 44 (.exit 1) .skip)) (zQ (zS [Gd 45 4 13,JI 47 45 46 4 1] (zC 48 (zS [t_ 12 49 12 10,ic 11] .ret) .skip)) (zS [dz 51 0 1,dz 53 13 2,gp 55 4,[⟨false,[],[],.call 2 207 [.t 51,.t 52,.t 53,.t 54,.t 55] (.mt 4 [] 0 55 4),[56,4,45,47,55],(some 56),none⟩],Ea 56 50 56 1 1,dK 57 15 57,au 16 58] (zQ (zS [au 59 16] (zC 59 (zS [t_ 12 60 12 10,ic 11] .ret) .skip)) (zR [dK 12 61 12,dK 15 62 15,yG 61 62 63 61,au 64 2,JD 65 64,M6 63 65 66 63 12]))))))))) (zR [JK 25 13]))))))) (zS [t_ 12 67 12 10,bB 11] .ret)))))
def Lr:aM:=⟨[.rd false [.d],.rd false iM,.rd false [.d],.rd false [.d],.mt false fG],(.tup [(false,1),(false,1)] apG)⟩
def Ls (q:Int × (List aR) × Int × Int × List (Bool)->Option ((List Int × Bool) × List (Bool))):aL:=aG [(143,Bf),(207,⟨Lr,[[.i .i64],[.sl [.i .i64,.i .i64]],[.i .i64],[.i .i64],[.sl [.b]]],[.sl [.i .i64],.b],[.sl [.b]],Ou.j (.mt 4 4 0),q⟩)]
def Lt (q:Int × (List aR) × Int × Int × List (Bool)->Option ((List Int × Bool) × List (Bool))) (n:Nat):Int × (List aR) × Int × Int × List (Bool)->Option ((List Int × Bool) × List (Bool)):=aI n (Ls q) Lp [[.i .i64],[.sl [.i .i64,.i .i64]],[.i .i64],[.i .i64],[.sl [.b]]] [.sl [.i .i64],.b] [.sl [.b]] [10,11] (.mt 4 4 0)
def xL:Nat->Int × (List aR) × Int × Int × List (Bool)->Option ((List Int × Bool) × List (Bool))
 | 0=>fun _=>none
 | d+1=>Lt (xL d) BIG
def ZM (d:Nat):TSp:=⟨Lr,[[.i .i64],[.sl [.i .i64,.i .i64]],[.i .i64],[.i .i64],[.sl [.b]]],[.sl [.i .i64],.b],[.sl [.b]],Ou.j (.mt 4 4 0),(xL d)⟩
theorem ap7 (q:Int × (List aR) × Int × Int × List (Bool)->Option ((List Int × Bool) × List (Bool))):ahX PG (Ls q) 207 Lr (Lp.ht 68) (.mt 4 4 0)=some (Lp.wc (Ls q),[10,11]):=by kernel_rfl
theorem Ue:∀d:Nat,(ZM d).Ok PG 207
 | 0=>fun _ _ _ h=>by cases h
 | d+1=>aQ (af CP (af (Ue d) (az PG))) (ap7 _) (by kernel_rfl)
theorem ap8 (q:Int × (List aR) × Int × Int × List (Bool)->Option ((List Int × Bool) × List (Bool))) (n) (a0) (a1) (a2) (a3) (a4):Lt q n (a0,a1,a2,a3,a4) =
 bnd a4.length a2 fun n0=>
 a4[n0]?.bind fun y1=>
 (aK n (X:=(List Int) × (List (Bool)) × Int) (B:=((List Int) × (List (Bool))) ⊕ ((List Int) × Bool × (List (Bool)))) (fun self3 x2=>
  bif decide (x2.2.2<a0) then
   ((bif decide (a2<x2.2.2) then
     some (a2,x2.2.2)
    else some (x2.2.2,a2)).bind fun x4=>
    (bif decide (x2.2.2=a3) then
     some true
     else (ww (a1,x4)).bind fun r5=>
     some !r5.1).bind fun x6=>
    bif x6 then
     some (Sum.inl (x2.1,x2.2.1))
    else bnd x2.2.1.length x2.2.2 fun n7=>
    x2.2.1[n7]?.bind fun y8=>
    bif y8 then
     some (Sum.inr (x2.1,true,x2.2.1))
    else (q (a0,a1,x2.2.2,a2,x2.2.1)).bind fun r9=>
    bif r9.1.2 then
     some (Sum.inr (x2.1,true,r9.2))
    else bif decide (x2.1.length+r9.1.1.length<=4294967296) then
     bif decide ((x2.1++r9.1.1).length+[a2].length<=4294967296) then
      some (Sum.inl ((x2.1++r9.1.1)++[a2],r9.2))
     else none
    else none:Option (((List Int) × (List (Bool))) ⊕ ((List Int) × Bool × (List (Bool))))).bind fun y=>match y with
   | .inl x10=>
    self3 (x10.1,x10.2,IntKind.wrap .i64 (x2.2.2+1))
   | .inr x10=>
    some (Sum.inr (x10.1,x10.2.1,x10.2.2))
  else some (Sum.inl (x2.1,x2.2.1))) ([a2],a4.set n0 true,(0:Int))).bind fun y=>match y with
 | .inl x11=>
  some ((x11.1,false),x11.2)
 | .inr x11=>
  some ((x11.1,x11.2.1),x11.2.2):=by kernel_rfl
def aep:TC:=
 (zS [yF 6,bB 7] (zQ (.seq (.join [⟨20,[.b],false⟩] 2095104 none (zR [au 11 0,pz 12 42 11 12,JM 13 12 2 3,jN 16 0 3,zEr 17 16 3,zEs 42 15 0 17 18 18 3,tZ 19 18 3 14])) (zC 20 (zS [TG 21 6,bB 7] .ret) .skip)) (zQ (.join [] 68715282880 (some [⟨6,[.sl [.i .i64]],false⟩,⟨7,[.b],false⟩]) (zS [bO 8] (.block 0 (.loop [⟨8,[.i .i64],false⟩] 68715282880 (zQ (zS [Cb 22 8 1] (zC 25 .skip (.exit 0))) (zQ (.block 1 (zS [dz 28 0 1,au 30 8,kW 31 29 30 2 2,jO 33 128 28 32,jT 34 33] (zC 34 (zS [TG 35 6,bB 7] .ret) .skip))) (zR [ig 26 8 8]))))))) (zS [dz 37 0 1,dz 39 2 0,[o1 41 (.make (.t 40) [.b]),⟨false,[],[],.call 2 207 [.t 37,.t 38,.t 39,kO (-1),.t 41] (.mt 41 [] 0 41 4),[42,41],(some 42),none⟩],Ea 42 36 42 1 1,dK 43 9 43,au 10 44] (zQ (zS [au 45 10] (zC 45 (zS [TG 46 6,bB 7] .ret) .skip)) (zS [t_ 9 47 9 6,ic 7] .ret))))))
def aeq:aM:=⟨[.rd false [.d],.rd false iM,.rd false [.d]],(.tup [(false,1),(false,1)] apG)⟩
def aer:aL:=aG [(42,fI),(128,Bd),(207,ZM 64)]
def Pm (n:Nat):Int × (List aR) × Int->Option ((List Int × Bool) × Unit):=aI n aer aep [[.i .i64],[.sl [.i .i64,.i .i64]],[.i .i64]] [.sl [.i .i64],.b] [] [6,7] .no
def GD:=Pm BIG
def aes:TSp:=⟨aeq,[[.i .i64],[.sl [.i .i64,.i .i64]],[.i .i64]],[.sl [.i .i64],.b],[],Ou.j .no,GD⟩
theorem atF:zK aer 205 aeq aep 48 .no [6,7]:=by show _=_;kernel_rfl
theorem ap9:aes.Ok PG 205:=aQ (af eX (af CJ (af (Ue 64) (az PG)))) atF (by kernel_rfl)
theorem atG (n) (a0) (a1) (a2):Pm n (a0,a1,a2) = ((bH (a0,(1:Int),(12:Int))).bind fun r0=> bif !r0.1 then some true else (bH (a2,(0:Int),IntKind.wrap .i64 (a0-1))).bind fun r1=> some !r1.1).bind fun x2=> bif x2 then some (([],false),()) else (aK n (X:=Int) (B:=(Unit) ⊕ ((List Int) × Bool)) (fun self4 x3=> bif decide (x3<(a1.length:Int)) then bnd a1.length x3 fun n5=> a1[n5]?.bind fun y6=> (wu (a0,y6)).bind fun r7=> bif !r7.1 then some (Sum.inr ([],false)) else self4 (IntKind.wrap .i64 (x3+1)) else some (Sum.inl ())) (0:Int)).bind fun y=>match y with | .inl x8=> bif decide (0<=a0) then bif decide ((Int.toNat a0)<=4294967296) then (xL 64 (a0,a1,a2,(-1:Int),List.replicate (Int.toNat a0) false)).bind fun r9=> bif r9.1.2 then some (([],false),()) else some ((r9.1.1,true),()) else none else none | .inr x8=> some (x8,()):=by kernel_rfl
def Uf:TC:=
 (zS [dN 2 0,zHb 4 1000000005,bB 5] (zS [bR 12 2 0,[o1 14 (.build uk [(0,.t 13)])],zHb 6 1000000007,zHc 14 6 14 6 14 14] (zS [dP 15 2 2,au 16 1,zMx 17 203 15 16 7] (zQ (zS [bR 18 2 0,pz 20 42 19 12,jT 21 20] (zC 21 (zS [[o1 22 (.build uk [])],zHc 22 4 22 4 22 22,bB 5] .ret) .skip)) (zS [TG 23 8] (zQ (.join [⟨4,uk,false⟩,⟨6,uk,false⟩] 9007199237967728 (some [⟨4,uk,false⟩,⟨5,[.b],false⟩]) (zS [bO 9] (.block 0 (.loop [⟨4,uk,false⟩,⟨6,uk,false⟩,⟨8,[.sl [.i .i64]],false⟩,⟨9,[.i .i64],false⟩] 9007199237967728 (zQ (zS [Tw 24 9 2 0,gH 27 24 26] (zC 27 .skip (.exit 0))) (zQ (.join [⟨4,uk,false⟩,⟨6,uk,false⟩,⟨8,[.sl [.i .i64]],false⟩] 9007198181002608 (some [⟨4,uk,false⟩,⟨5,[.b],false⟩]) (.block 1 (zQ (zS [Gd 30 8 9,jO 32 204 30 31] (zC 32 (.exit 1) .skip)) (zS [bR 34 2 0,Gd 36 7 9,D9 38 205 35 36 37,Ea 38 33 38 1 1,dK 39 10 39,au 11 40] (zQ (zS [au 41 11,jT 42 41] (zC 42 (zS [[o1 43 (.build uk [])],zHc 43 4 43 4 43 43,bB 5] .ret) .skip)) (zS [uA 44 6 1,zHd 10 10 46 10 46,[o1 47 (.sli [.sl [.i .i64]] [.t 46])],YO 45 45 47 48 45 45 6 48 6 6 1] (zR [YM 8 50 8 30 50,au 51 10,yG 50 51 52 50,YM 52 8 52 30 8]))))))) (zR [ig 28 9 9]))))))) (zS [xu 53 6 2 4 4 6,ic 5] .ret)))))))
def Ug:aM:=⟨[.rd true nJ,.rd false [.d]],(.tup [(true,2),(false,1)] [.d,.sl (.own none) [.sl (.ro []) [.d]],.d])⟩
def Uh:aL:=aG [(203,ZK),(42,fI),(204,vE),(205,aes)]
def Ip (n:Nat):eD × Int->Option ((Int × List (List Int) × Bool) × Unit):=aI n Uh Uf [bK,[.i .i64]] [.i .i64,.sl [.sl [.i .i64]],.b] [] [4,5] .no
def qG:=Ip BIG
def uD:TSp:=⟨Ug,[bK,[.i .i64]],[.i .i64,.sl [.sl [.i .i64]],.b],[],Ou.j .no,qG⟩
theorem alk:zK Uh 182 Ug Uf 54 .no [4,5]:=by show _=_;kernel_rfl
theorem xM:uD.Ok PG 182:=aQ (af alj (af eX (af wy (af ap9 (az PG))))) alk (by kernel_rfl)
theorem alm (n) (a0) (a1):Ip n (a0,a1) =
 (Lm (a0,a1)).bind fun r0=>
 (bH (a0.1,(1:Int),(12:Int))).bind fun r1=>
 bif !r1.1 then
  some (((0:Int),[],false),())
 else (aK n (X:=Ie × Ie × (List Int) × Int) (B:=(Ie × Ie) ⊕ (Ie × Bool)) (fun self3 x2=>
  bif decide (x2.2.2.2<a0.1) then
   ((jV (x2.2.2.1,x2.2.2.2)).bind fun r4=>
    bif r4.1 then
     some (Sum.inl (x2.1,x2.2.1,x2.2.2.1))
    else (GD (a0.1,r0.1,x2.2.2.2)).bind fun r5=>
    bif !r5.1.2 then
     some (Sum.inr (((0:Int),[]),false))
    else bif decide (x2.2.1.2.length+[r5.1.1].length<=4294967296) then
     bif decide (x2.2.2.1.length+r5.1.1.length<=4294967296) then
      some (Sum.inl (x2.1,(x2.2.1.1,x2.2.1.2++[r5.1.1]),x2.2.2.1++r5.1.1))
     else none
    else none:Option ((Ie × Ie × (List Int)) ⊕ (Ie × Bool))).bind fun y=>match y with
   | .inl x6=>
    self3 (x6.1,x6.2.1,x6.2.2,IntKind.wrap .i64 (x2.2.2.2+1))
   | .inr x6=>
    some (Sum.inr (x6.1,x6.2))
  else some (Sum.inl (x2.1,x2.2.1))) (((0:Int),[]),(a0.1,[]),[],(0:Int))).bind fun y=>match y with
 | .inl x7=>
  some ((x7.2.1,x7.2.2,true),())
 | .inr x7=>
  some ((x7.1.1,x7.1.2,x7.2),()):=by kernel_rfl
def ZN:TC:=
 (zS [yF 2] (zS [zBa 5,dK 5 3 5] (zQ (.join [⟨3,[.sl [.i .i64]],false⟩] 131032 none (zS [bO 4] (.block 0 (.loop [⟨3,[.sl [.i .i64]],false⟩,⟨4,[.i .i64],false⟩] 131032 (zQ (zS [au 6 4,[o1 7 (.data (.bin .lss) [.t 6,kD 12])]] (zC 7 .skip (.exit 0))) (zQ (.join [⟨3,[.sl [.i .i64]],false⟩] 130056 none (.block 1 (zS [dz 10 0 4,jO 12 204 10 11] (zC 12 (zR [dK 3 13 3,au 14 4,JD 15 14,M6 13 15 16 13 3]) .skip)))) (zR [au 8 4,BZ 9 8,au 4 9]))))))) (zS [t_ 3 17 3 2] .ret))))
def ZO:aM:=⟨[.rd false fG],(.one false fG)⟩
def ZP:aL:=aG [(204,vE)]
def Lu (n:Nat):List (Int)->Option ((List Int) × Unit):=aI n ZP ZN [[.sl [.i .i64]]] [.sl [.i .i64]] [] [2] .no
def kR:=Lu BIG
def xN:TSp:=⟨ZO,[[.sl [.i .i64]]],[.sl [.i .i64]],[],Ou.j .no,kR⟩
theorem ap_:zK ZP 186 ZO ZN 18 .no [2]:=by show _=_;kernel_rfl
theorem Aj:xN.Ok PG 186:=aQ (af wy (az PG)) ap_ (by kernel_rfl)
theorem aqa (n) (a0):Lu n a0 = (aK n (X:=(List Int) × Int) (B:=(List Int)) (fun self1 x0=> bif decide (x0.2<12) then ((jV (a0,x0.2)).bind fun r2=> bif r2.1 then bif decide (x0.1.length+[x0.2].length<=4294967296) then some (x0.1++[x0.2]) else none else some x0.1:Option ((List Int))).bind fun x3=> self1 (x3,IntKind.wrap .i64 (x0.2+1)) else some x0.1) ([],(0:Int))).bind fun x4=> some (x4,()):=by kernel_rfl
def ZQ:TC:=
 (zS [bB 2] (zS [au 6 0,zHf 7 6,YI 8 6 1 7,JD 9 8,dK 9 3 9] (zS [au 10 0,zHf 11 10,YI 12 10 1 11,JD 13 12,dK 13 4 13] (zQ (.join [⟨3,[.sl [.i .i64]],false⟩] 2305843009213677628 (some [⟨2,[.b],false⟩]) (zS [nZ 5 1] (.block 0 (.loop [⟨3,[.sl [.i .i64]],false⟩,⟨4,[.sl [.i .i64]],false⟩,⟨5,[.i .i64],false⟩] 2305843009213677628 (zQ (zS [Cb 14 5 0] (zC 17 .skip (.exit 0))) (zQ (.join [⟨3,[.sl [.i .i64]],false⟩,⟨4,[.sl [.i .i64]],false⟩] 2305843009212645404 (some [⟨2,[.b],false⟩]) (.block 1 (zQ (.seq (.join [⟨35,[.b],false⟩] 68718428160 none (zR [gp 20 3,mr 21 20,YH 22 21 1,Cc 23 22 0 3,iJ 25 5 3,rA 26 24 25 3,Ca 27 24 1 26 3,Tu 3 28 28 3,Tu 3 29 29 3,zHh 30 29 3,[o2 31 (.data (.bin .sub) [.t 30,kD 2]) 3 true],rA 32 28 31 3,Ca 33 3 1 32 3,D7 34 27 33 3,pu 23 34 35])) (zC 35 (zS [gp 36 3,gp 37 3,mr 38 37,yI 39 38,[⟨true,[36],[],.det 2 (.res 36 none (some (.t 39))),[40,36,36,3,20,37],(some 40),none⟩],zHi 40 3 40 20 37 36 3] (.exit 1)) .skip)) (zQ (zS [gp 41 4,Tz 42 0 5 1,jO 46 204 41 45] (zC 46 (zS [bB 2] .ret) .skip)) (zS [YM 4 47 4 41 47,Tz 48 0 5 1,JD 52 51,yG 47 52 53 47,YM 53 4 53 41 4] (zR [YM 3 54 3 20 54,Tz 55 0 5 1,JD 59 58,yG 54 59 60 54,YM 60 3 60 20 3])))))) (zR [ig 18 5 5]))))))) (zS [dK 3 61 3,mr 62 61,yN 63 62 1 2] .ret)))))
def ZT:aM:=⟨[.rd false fG],(.one false [.d])⟩
def ZU:aL:=aG [(204,vE)]
def Lv (n:Nat):List (Int)->Option ((Bool) × Unit):=aI n ZU ZQ [[.sl [.i .i64]]] [.b] [] [2] .no
def Lx:=Lv BIG
def ZW:TSp:=⟨ZT,[[.sl [.i .i64]]],[.b],[],Ou.j .no,Lx⟩
theorem aqb:zK ZU 209 ZT ZQ 64 .no [2]:=by show _=_;kernel_rfl
theorem aln:ZW.Ok PG 209:=aQ (af wy (az PG)) aqb (by kernel_rfl)
theorem aqc (n) (a0):Lv n a0 =
 bnd a0.length (0:Int) fun n0=>
 a0[n0]?.bind fun y1=>
 bnd a0.length (0:Int) fun n2=>
 a0[n2]?.bind fun y3=>
 (aK n (X:=(List Int) × (List Int) × Int) (B:=((List Int)) ⊕ (Bool)) (fun self5 x4=>
  bif decide (x4.2.2<(a0.length:Int)) then
   ((bif decide (1<(x4.1.length:Int)) then
     bnd a0.length x4.2.2 fun n6=>
     a0[n6]?.bind fun y7=>
     bnd x4.1.length (IntKind.wrap .i64 ((x4.1.length:Int)-2)) fun n8=>
     x4.1[n8]?.bind fun y9=>
     some (decide (y7=y9))
    else some false).bind fun x10=>
    bif x10 then
     bif decide (0<=(IntKind.wrap .i64 ((x4.1.length:Int)-1))) then
      bif decide (0<=(Int.toNat (IntKind.wrap .i64 ((x4.1.length:Int)-1)))/\(Int.toNat (IntKind.wrap .i64 ((x4.1.length:Int)-1)))<=x4.1.length) then
       some (Sum.inl (List.take ((Int.toNat (IntKind.wrap .i64 ((x4.1.length:Int)-1)))-0) (List.drop 0 x4.1),x4.2.1))
      else none
     else none
    else bnd a0.length x4.2.2 fun n11=>
    a0[n11]?.bind fun y12=>
    (jV (x4.2.1,y12)).bind fun r13=>
    bif r13.1 then
     some (Sum.inr false)
    else bnd a0.length x4.2.2 fun n14=>
    a0[n14]?.bind fun y15=>
    bif decide (x4.2.1.length+[y15].length<=4294967296) then
     bnd a0.length x4.2.2 fun n16=>
     a0[n16]?.bind fun y17=>
     bif decide (x4.1.length+[y17].length<=4294967296) then
      some (Sum.inl (x4.1++[y17],x4.2.1++[y15]))
     else none
    else none:Option (((List Int) × (List Int)) ⊕ (Bool))).bind fun y=>match y with
   | .inl x18=>
    self5 (x18.1,x18.2,IntKind.wrap .i64 (x4.2.2+1))
   | .inr x18=>
    some (Sum.inr x18)
  else some (Sum.inl x4.1)) ([y1],[y3],(1:Int))).bind fun y=>match y with
 | .inl x19=>
  some (decide ((x19.length:Int)=1),())
 | .inr x19=>
  some (x19,()):=by kernel_rfl
def aet:TC:=
 (zS [bB 2] (zQ (zS [xw 4 0 4,pz 6 42 5 23,jT 7 6] (zC 7 (zS [bB 2] .ret) .skip)) (zQ (.join [] 1048332 (some [⟨2,[.b],false⟩]) (zS [bO 3] (.block 0 (.loop [⟨3,[.i .i64],false⟩] 1048332 (zQ (zS [dz 8 3 0,yJ 10 9 8] (zC 11 .skip (.exit 0))) (zQ (.block 1 (zS [Tz 14 0 3 1,[o3 18 42 [.t 17,kO 0,kO 11]],jT 19 18] (zC 19 (zS [bB 2] .ret) .skip))) (zR [ig 12 3 3]))))))) (zS [au 20 0,gI 21 209 20,au 2 21] .ret))))
def aeu:aM:=⟨[.rd false fG],(.one false [.d])⟩
def aev:aL:=aG [(42,fI),(209,ZW)]
def Pn (n:Nat):List (Int)->Option ((Bool) × Unit):=aI n aev aet [[.sl [.i .i64]]] [.b] [] [2] .no
def Po:=Pn BIG
def aew:TSp:=⟨aeu,[[.sl [.i .i64]]],[.b],[],Ou.j .no,Po⟩
theorem atH:zK aev 208 aeu aet 22 .no [2]:=by show _=_;kernel_rfl
theorem aqd:aew.Ok PG 208:=aQ (af eX (af aln (az PG))) atH (by kernel_rfl)
theorem atI (n) (a0):Pn n a0 = (bH ((a0.length:Int),(1:Int),(23:Int))).bind fun r0=> bif !r0.1 then some (false,()) else (aK n (X:=Int) (B:=(Unit) ⊕ (Bool)) (fun self2 x1=> bif decide (x1<(a0.length:Int)) then bnd a0.length x1 fun n3=> a0[n3]?.bind fun y4=> (bH (y4,(0:Int),(11:Int))).bind fun r5=> bif !r5.1 then some (Sum.inr false) else self2 (IntKind.wrap .i64 (x1+1)) else some (Sum.inl ())) (0:Int)).bind fun y=>match y with | .inl x6=> (Lx a0).bind fun r7=> some (r7.1,()) | .inr x6=> some (x6,()):=by kernel_rfl
end
end Go.Fw
